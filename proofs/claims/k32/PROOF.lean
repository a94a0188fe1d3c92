import PyProof.Rows.All
import Wide.All
import OpenK.AllK
import Wide.FinOn
import HandS.ForMost
import HandS.Slots
import HandS.SlotsOwn
import HandS.TupAny
import HandS.Conv
import HandS.Rev
import HandS.Zip
import HandS.SortInts
import HandS.Style
import HandS.Flow
import HandS.Deep
import HandS.Exc
import HandS.ExcOwn
import HandS.TryOnly
import HandS.WordsExc
import HandS.Lambda
import KE.KeyNested
import HandS.IsInst
import KE.GoesMore
import HandS.DictComp
import HandS.More
import KE.KRevSl
import HandS.SetFor
import HandS.Star
import PyProof.DictUpdate
import KE.KDictSum
import HandS.Text
import HandS.SortRule
import PyProof.Rows.SortKeyStr
import HandS.DictEq
import PyProof.Rows.StrMeet
import HandS.Iter
import HandS.Wide
import KE.SortData
import KE.DataMinMax
import KE.DataCmp
import PyProof.Claim2Refuses
import HandS.Strs
import HandS.ExcIs
import HandS.ExcField
import HandS.EndOwn
import KE.KExcIs
import KE.KNestM
import KE.KDflt
import KE.KDictKeyed
import HandS.TupLen
import PyProof.TupleOfStr
import HandS.Property
import HandS.ExcInit
import HandS.MakeKwOnly
import KE.KExcSuper
import KE.KExcLine
import HandS.ClsMeth
import HandS.TupMul
import KE.KDictPairs
import HandS.TupSets
import KE.KDictCopyH
import PySem.Challenge.RW_rulerbits_k32_whole_measurings_to_be_mad
set_option Elab.async false
set_option linter.all false
set_option maxRecDepth 100000
set_option maxHeartbeats 4000000
set_option autoImplicit false
namespace RB
open PySem PySem.Spec PyProof.Rows L2
inductive D where
  | non | bl (b : Bool) | int (i : Int) | str (x : Str)
  | tup (xs : List D) | lst (xs : List D)
  | dic (ks : List Key) (xs : List D)
  | ins (C : Addr) (xs : List D)
  | adr (a : Addr)
  | obj (C : Addr) (ns : List Str) (xs : List D)
  | slo (C dx : Addr) (is : List Nat) (xs : List D)
  | xdo (x : Addr) (b : Bool)
  | scr (ns : List Int)
  | tab (q : Str)
  | hob (a : Addr) (os : List (Addr × HO))
  | kd (w : World) (ks xs : List D)
mutual
def nkD : D → NestedKey
  | .int i => .num i
  | .bl b => .num (if b = true then 1 else 0)
  | .str x => .text x
  | .tup ds => .tup (nkDs ds)
  | _ => .none
def nkDs : List D → List NestedKey
  | [] => []
  | d :: ds => nkD d :: nkDs ds
end
abbrev KdE := NestedKey × Addr × V
abbrev KdR : KdE → NestedKey × Addr × Value → Prop := fun x y => y.1 = x.1 ∧ y.2.1 = x.2.1 ∧ RelV x.2.2 y.2.2
def KdAt (w : World) (h : Heap) (a : Addr) (xs : List KdE) : Prop := (a == sysModules) = false ∧ xs.length ≤ sizeLine ∧ (xs.map (·.1)).Nodup ∧
  ∃ (ys : List (NestedKey × Addr × Value)) (o : Obj) (es : Array DictEntry) (ep : Nat), Paired KdR xs ys ∧ h.get? a = some o ∧ o.ExactDict ∧ o.data = .dict es ep ∧ es.toList = ys.map fun y => (⟨y.1.hash w, .ref y.2.1, y.2.2⟩ : DictEntry)
def KdO (w : World) (a : Addr) (xs : List KdE) : HO := .ext fun h => KdAt w h a xs
/-- a slot: unknown, shared (frozen) data, an own mutable object -/
inductive Sl where
  | no | sh (d : D) | own (d : D)
/-- a result: shared data, a fresh object, the object of an own slot -/
inductive Res where
  | sh (d : D) | fr (d : D) | pk (i : Nat)
abbrev Env2 := List Sl
mutual
def Rep (K : PySem.W.Frag) (F : Hp) : D → V → Prop
  | .non, v => v = .non
  | .bl b, v => v = .bl b
  | .int i, v => v = .int i
  | .str x, v => v = .str x
  | .tup ds, v => ∃ a vs, v = .ref a ∧ SqT K F a vs ∧ RepL K F ds vs
  | .lst ds, v => ∃ a vs, v = .ref a ∧ Rd F a (.lst vs) ∧ RepL K F ds vs
  | .dic ks ds, v => ∃ a o vs, v = .ref a ∧ F a = some (.frz o (.dK (ks.zip vs))) ∧ ks.length = ds.length ∧ RepL K F ds vs
  | .ins C ds, v => ∃ a dx vs, v = .ref a ∧ SlX.Slt F a C dx (vs.map some) ∧ RepL K F ds vs
  | .adr a, v => v = .ref a
  | .obj _ _ _, _ => False
  | .slo _ _ _ _, _ => False
  | .xdo _ _, _ => False
  | .tab _, _ => False
  | .hob a os, v => v = .ref a ∧ ∀ p ∈ os, F p.1 = some p.2
  | .kd w ks ds, v => ∃ (a : Addr) (ob : Obj) (es : List KdE), v = .ref a ∧ F a = some (.frz ob (KdO w a es)) ∧ es.map (·.1) = nkDs ks ∧ RepL K F ks (es.map fun e => .ref e.2.1) ∧ RepL K F ds (es.map (·.2.2))
  | .scr ns, v => ∃ a, v = .ref a ∧ SqL K F a (ns.map V.int)
def RepL (K : PySem.W.Frag) (F : Hp) : List D → List V → Prop
  | [], vs => vs = []
  | d :: ds, vs => ∃ v r, vs = v :: r ∧ Rep K F d v ∧ RepL K F ds r
end
abbrev Ex (H H' : Hp) : Prop := ∀ a o, H a = some o → H' a = some o
theorem Ex.refl (H : Hp) : Ex H H := fun _ _ h => h
theorem Ex.trans {A B C : Hp} (x : Ex A B) (y : Ex B C) : Ex A C := fun a o h => y a o (x a o h)
theorem Ex.new {H : Hp} {p : Addr} {o : HO} (h : H p = none) : Ex H (upd H p o) := fun a u e => by
  rw [upd_ne (ne_of_none e h)]; exact e
theorem Ex.rd {F F' : Hp} (e : Ex F F') {a : Addr} {u : HO} (h : Rd F a u) : Rd F' a u := by
  rcases h with h | ⟨o, h⟩
  · exact .inl (e a _ h)
  · exact .inr ⟨o, e a _ h⟩
theorem Ex.sqL {K : PySem.W.Frag} {F F' : Hp} (e : Ex F F') {a : Addr} {xs : List V} (h : SqL K F a xs) : SqL K F' a xs := by
  rcases h with h | h
  · exact .inl (e.rd h)
  · exact .inr h
theorem Ex.sqT {K : PySem.W.Frag} {F F' : Hp} (e : Ex F F') {a : Addr} {xs : List V} (h : SqT K F a xs) : SqT K F' a xs := by
  rcases h with h | h
  · exact .inl (e.rd h)
  · exact .inr h
theorem Ex.slt {F F' : Hp} (e : Ex F F') {a C dx : Addr} {vs : List (Option V)} (h : SlX.Slt F a C dx vs) : SlX.Slt F' a C dx vs := by
  rcases h with ⟨h1, h2⟩ | ⟨h1, h2⟩
  · exact .inl ⟨e _ _ h1, h2⟩
  · exact .inr ⟨e _ _ h1, e _ _ h2⟩
mutual
theorem Rep.mono {K : PySem.W.Frag} {F F' : Hp} (e : Ex F F') : ∀ (d : D) (v : V), Rep K F d v → Rep K F' d v
  | .non, v, h => h
  | .bl b, v, h => h
  | .int i, v, h => h
  | .str x, v, h => h
  | .tup ds, v, h => by
    obtain ⟨a, vs, h1, h2, h3⟩ := h
    exact ⟨a, vs, h1, e.sqT h2, RepL.mono e ds vs h3⟩
  | .lst ds, v, h => by
    obtain ⟨a, vs, h1, h2, h3⟩ := h
    exact ⟨a, vs, h1, e.rd h2, RepL.mono e ds vs h3⟩
  | .dic ks ds, v, h => by
    obtain ⟨a, o, vs, h1, h2, h4, h3⟩ := h
    exact ⟨a, o, vs, h1, e _ _ h2, h4, RepL.mono e ds vs h3⟩
  | .ins C ds, v, h => by
    obtain ⟨a, dx, vs, h1, h2, h3⟩ := h
    exact ⟨a, dx, vs, h1, e.slt h2, RepL.mono e ds vs h3⟩
  | .adr a, v, h => h
  | .obj _ _ _, v, h => h
  | .slo _ _ _ _, v, h => h
  | .xdo _ _, v, h => h
  | .tab _, v, h => h
  | .hob a os, v, h => ⟨h.1, fun p hp => e _ _ (h.2 p hp)⟩
  | .kd w ks ds, v, h => by
    obtain ⟨a, ob, es, h1, h2, h3, h4, h5⟩ := h
    exact ⟨a, ob, es, h1, e _ _ h2, h3, RepL.mono e ks _ h4, RepL.mono e ds _ h5⟩
  | .scr ns, v, h => by
    obtain ⟨a, h1, h2⟩ := h
    exact ⟨a, h1, e.sqL h2⟩
theorem RepL.mono {K : PySem.W.Frag} {F F' : Hp} (e : Ex F F') : ∀ (ds : List D) (vs : List V), RepL K F ds vs → RepL K F' ds vs
  | [], vs, h => h
  | d :: ds, vs, h => by
    obtain ⟨v, r, h1, h2, h3⟩ := h
    exact ⟨v, r, h1, Rep.mono e d v h2, RepL.mono e ds r h3⟩
end
section
variable {K : PySem.W.Frag} {F : Hp}
theorem RepL.length : ∀ {ds : List D} {vs : List V}, RepL K F ds vs → vs.length = ds.length
  | [], vs, h => by cases (show vs = [] from h); rfl
  | d :: ds, vs, h => by
    obtain ⟨v, r, rfl, _, h3⟩ := h
    rw [List.length_cons, List.length_cons, RepL.length h3]
theorem RepL.get : ∀ {ds : List D} {vs : List V} {i : Nat} {d : D}, RepL K F ds vs → ds[i]? = some d → ∃ v, vs[i]? = some v ∧ Rep K F d v
  | [], vs, i, d, h, e => by simp at e
  | d0 :: ds, vs, 0, d, h, e => by
    obtain ⟨v, r, rfl, h2, _⟩ := h
    have : d0 = d := by simpa using e
    subst this
    exact ⟨v, rfl, h2⟩
  | d0 :: ds, vs, i + 1, d, h, e => by
    obtain ⟨v, r, rfl, _, h3⟩ := h
    obtain ⟨u, h1, h2⟩ := RepL.get (i := i) h3 (by simpa using e)
    exact ⟨u, by simpa using h1, h2⟩
theorem RepL.append : ∀ {ds es : List D} {vs us : List V}, RepL K F ds vs → RepL K F es us → RepL K F (ds ++ es) (vs ++ us)
  | [], es, vs, us, h, g => by cases (show vs = [] from h); exact g
  | d :: ds, es, vs, us, h, g => by
    obtain ⟨v, r, rfl, h2, h3⟩ := h
    exact ⟨v, r ++ us, rfl, h2, RepL.append h3 g⟩
theorem RepL.one {d : D} {v : V} (h : Rep K F d v) : RepL K F [d] [v] := ⟨v, [], rfl, h, rfl⟩
theorem RepL.drop : ∀ (n : Nat) {ds : List D} {vs : List V}, RepL K F ds vs → RepL K F (ds.drop n) (vs.drop n)
  | 0, _, _, h => h
  | n + 1, [], vs, h => by cases (show vs = [] from h); exact rfl
  | n + 1, d :: ds, vs, h => by
    obtain ⟨v, r, rfl, h2, h3⟩ := h
    exact RepL.drop n h3
theorem RepL.take : ∀ (n : Nat) {ds : List D} {vs : List V}, RepL K F ds vs → RepL K F (ds.take n) (vs.take n)
  | 0, _, _, h => rfl
  | n + 1, [], vs, h => by cases (show vs = [] from h); exact rfl
  | n + 1, d :: ds, vs, h => by
    obtain ⟨v, r, rfl, h2, h3⟩ := h
    exact ⟨v, r.take n, rfl, h2, RepL.take n h3⟩
theorem RepL.set : ∀ (i : Nat) {ds : List D} {vs : List V} {d : D} {v : V}, RepL K F ds vs → Rep K F d v → RepL K F (ds.set i d) (vs.set i v)
  | i, [], vs, d, v, h, g => by cases (show vs = [] from h); exact rfl
  | 0, d0 :: ds, vs, d, v, h, g => by
    obtain ⟨u, r, rfl, _, h3⟩ := h
    exact ⟨v, r, rfl, g, h3⟩
  | i + 1, d0 :: ds, vs, d, v, h, g => by
    obtain ⟨u, r, rfl, h2, h3⟩ := h
    exact ⟨u, r.set i v, rfl, h2, RepL.set i h3 g⟩
theorem RepL.eraseIdx : ∀ (i : Nat) {ds : List D} {vs : List V}, RepL K F ds vs → RepL K F (ds.eraseIdx i) (vs.eraseIdx i)
  | i, [], vs, h => by cases (show vs = [] from h); exact rfl
  | 0, d0 :: ds, vs, h => by
    obtain ⟨u, r, rfl, _, h3⟩ := h
    exact h3
  | i + 1, d0 :: ds, vs, h => by
    obtain ⟨u, r, rfl, h2, h3⟩ := h
    exact ⟨u, r.eraseIdx i, rfl, h2, RepL.eraseIdx i h3⟩
theorem RepL.reverse : ∀ {ds : List D} {vs : List V}, RepL K F ds vs → RepL K F ds.reverse vs.reverse
  | [], vs, h => by cases (show vs = [] from h); exact rfl
  | d :: ds, vs, h => by
    obtain ⟨v, r, rfl, h2, h3⟩ := h
    rw [List.reverse_cons, List.reverse_cons]
    exact (RepL.reverse h3).append (.one h2)
/-- lists of ints -/
theorem RepL.ints : ∀ {ns : List Int} {vs : List V}, RepL K F (ns.map D.int) vs → vs = ns.map V.int
  | [], vs, h => h
  | n :: ns, vs, h => by
    obtain ⟨v, r, rfl, h2, h3⟩ := h
    cases (show v = .int n from h2)
    rw [RepL.ints h3]; rfl
theorem RepL.of_ints : ∀ (ns : List Int), RepL K F (ns.map D.int) (ns.map V.int)
  | [] => rfl
  | n :: ns => ⟨_, _, rfl, rfl, RepL.of_ints ns⟩
end
/-- what is not frozen as it stands -/
def isDic : D → Bool
  | .lst _ => false
  | .tup _ => false
  | .int _ => false
  | .bl _ => false
  | .str _ => false
  | .non => false
  | .ins _ _ => false
  | .adr _ => false
  | _ => true
/-- the object at p, its parts frozen -/
def Own (K : PySem.W.Frag) (F H : Hp) (p : Addr) : D → Prop
  | .lst ds => ∃ vs, H p = some (.lst vs) ∧ RepL K F ds vs
  | .dic ks ds => ∃ vs, H p = some (.dK (ks.zip vs)) ∧ ks.length = ds.length ∧ RepL K F ds vs
  | .obj C ns ds => ∃ dx vs, H p = some (.ins C dx (ns.zip vs)) ∧ ns.length = ds.length ∧ RepL K F ds vs
  | .slo C dx is ds => (is = [] ∧ ds = [] ∧ H p = some (.ins C dx [])) ∨ ∃ us vs, H p = some (SlX.SlO p C dx us) ∧ is.length = ds.length ∧ RepL K F ds vs ∧ ∀ (j : Nat) (i : Nat) (v : V), is[j]? = some i → vs[j]? = some v → us[i]? = some (some v)
  | .xdo x b => H p = some (if b then .xd [] else .own x)
  | .tab q => ∃ ps : Array Value, H p = some (.tbl ps) ∧ TriplesOk ps.toList ∧ ∀ (pos : Pos) (cv : Value), codeAmong pos ps.toList = some cv → ∃ c, cv = .ref c ∧ F c = some (LamX.CodeO c q)
  | .kd w ks ds => ∃ es : List KdE, H p = some (KdO w p es) ∧ es.map (·.1) = nkDs ks ∧ RepL K F ks (es.map fun e => .ref e.2.1) ∧ RepL K F ds (es.map (·.2.2))
  | _ => False
theorem Own.mono {K : PySem.W.Frag} {F F' H H' : Hp} {p : Addr} {d : D} (e : Ex F F') (k : ∀ o, H p = some o → H' p = some o) (h : Own K F H p d) : Own K F' H' p d := by
  cases d with
  | lst ds => obtain ⟨vs, h1, h2⟩ := h; exact ⟨vs, k _ h1, RepL.mono e _ _ h2⟩
  | dic ks ds => obtain ⟨vs, h1, h3, h2⟩ := h; exact ⟨vs, k _ h1, h3, RepL.mono e _ _ h2⟩
  | obj C ns ds => obtain ⟨dx, vs, h1, h3, h2⟩ := h; exact ⟨dx, vs, k _ h1, h3, RepL.mono e _ _ h2⟩
  | slo C dx is ds =>
    rcases h with ⟨h1, h2, h3⟩ | ⟨us, vs, h1, h2, h3, h4⟩
    · exact .inl ⟨h1, h2, k _ h3⟩
    · exact .inr ⟨us, vs, k _ h1, h2, RepL.mono e _ _ h3, h4⟩
  | xdo x b => exact k _ h
  | kd w ks ds => obtain ⟨es, h1, h2, h3, h4⟩ := h; exact ⟨es, k _ h1, h2, RepL.mono e _ _ h3, RepL.mono e _ _ h4⟩
  | tab q => obtain ⟨ps, h1, h2, h3⟩ := h; exact ⟨ps, k _ h1, h2, fun pos cv hc => let ⟨c, e1, e2⟩ := h3 pos cv hc; ⟨c, e1, e _ _ e2⟩⟩
  | _ => exact h.elim
theorem Own.there {K : PySem.W.Frag} {F H : Hp} {p : Addr} {d : D} (h : Own K F H p d) : ∃ o, H p = some o := by
  cases d with
  | lst ds => obtain ⟨vs, h1, h2⟩ := h; exact ⟨_, h1⟩
  | dic ks ds => obtain ⟨vs, h1, h3, h2⟩ := h; exact ⟨_, h1⟩
  | obj C ns ds => obtain ⟨dx, vs, h1, h3, h2⟩ := h; exact ⟨_, h1⟩
  | slo C dx is ds =>
    rcases h with ⟨h1, h2, h3⟩ | ⟨us, vs, h1, h2, h3, h4⟩
    · exact ⟨_, h3⟩
    · exact ⟨_, h1⟩
  | xdo x b => exact ⟨_, h⟩
  | tab q => obtain ⟨ps, h1, _⟩ := h; exact ⟨_, h1⟩
  | kd w ks ds => obtain ⟨es, h1, _⟩ := h; exact ⟨_, h1⟩
  | _ => exact h.elim
/-- a view: frozen, or an object whose parts are -/
def Vw (K : PySem.W.Frag) (F H : Hp) (d : D) (v : V) : Prop := Rep K F d v ∨ ∃ p, v = .ref p ∧ Own K F H p d
theorem Vw.lst {K : PySem.W.Frag} {F H : Hp} (e : Ex F H) {ds : List D} {v : V} (h : Vw K F H (.lst ds) v) : ∃ a vs, v = .ref a ∧ Rd H a (.lst vs) ∧ RepL K F ds vs := by
  rcases h with ⟨a, vs, h1, h2, h3⟩ | ⟨p, h1, vs, h2, h3⟩
  · exact ⟨a, vs, h1, e.rd h2, h3⟩
  · exact ⟨p, vs, h1, .inl h2, h3⟩
theorem Vw.tup {K : PySem.W.Frag} {F H : Hp} (e : Ex F H) {ds : List D} {v : V} (h : Vw K F H (.tup ds) v) : ∃ a vs, v = .ref a ∧ SqT K H a vs ∧ RepL K F ds vs := by
  rcases h with ⟨a, vs, h1, h2, h3⟩ | ⟨p, h1, h2⟩
  · exact ⟨a, vs, h1, e.sqT h2, h3⟩
  · exact h2.elim
theorem Vw.dic {K : PySem.W.Frag} {F H : Hp} (e : Ex F H) {ks : List Key} {ds : List D} {v : V} (h : Vw K F H (.dic ks ds) v) : ∃ a vs, v = .ref a ∧ Rd H a (.dK (ks.zip vs)) ∧ ks.length = ds.length ∧ RepL K F ds vs := by
  rcases h with ⟨a, o, vs, h1, h2, h4, h3⟩ | ⟨p, h1, vs, h2, h4, h3⟩
  · exact ⟨a, vs, h1, .inr ⟨o, e _ _ h2⟩, h4, h3⟩
  · exact ⟨p, vs, h1, .inl h2, h4, h3⟩
theorem Vw.int {K : PySem.W.Frag} {F H : Hp} {i : Int} {v : V} (h : Vw K F H (.int i) v) : v = .int i := by
  rcases h with h | ⟨p, h1, h2⟩
  · exact h
  · exact h2.elim
theorem Vw.bl {K : PySem.W.Frag} {F H : Hp} {i : Bool} {v : V} (h : Vw K F H (.bl i) v) : v = .bl i := by
  rcases h with h | ⟨p, h1, h2⟩
  · exact h
  · exact h2.elim
theorem Vw.str {K : PySem.W.Frag} {F H : Hp} {i : Str} {v : V} (h : Vw K F H (.str i) v) : v = .str i := by
  rcases h with h | ⟨p, h1, h2⟩
  · exact h
  · exact h2.elim
theorem Vw.non {K : PySem.W.Frag} {F H : Hp} {v : V} (h : Vw K F H .non v) : v = .non := by
  rcases h with h | ⟨p, h1, h2⟩
  · exact h
  · exact h2.elim
theorem Vw.ins {K : PySem.W.Frag} {F H : Hp} (e : Ex F H) {C : Addr} {ds : List D} {v : V} (h : Vw K F H (.ins C ds) v) : ∃ a dx vs, v = .ref a ∧ SlX.Slt H a C dx (vs.map some) ∧ RepL K F ds vs := by
  rcases h with ⟨a, dx, vs, h1, h2, h3⟩ | ⟨p, h1, h2⟩
  · exact ⟨a, dx, vs, h1, e.slt h2, h3⟩
  · exact h2.elim
/-- the open region: objects that are known by their address, as data -/
abbrev GD := Addr → Option D
def updG (G : GD) (a : Addr) (d : D) : GD := fun b => if b = a then some d else G b
theorem updG_same {G : GD} {a : Addr} {d : D} : updG G a d a = some d := by unfold updG; rw [if_pos rfl]
theorem updG_ne {G : GD} {a b : Addr} {d : D} (h : b ≠ a) : updG G a d b = G b := by unfold updG; rw [if_neg h]
/-- F0: what was frozen at the entry; T: what others hold; F: frozen; G: the open region; H: all -/
structure Bas (K : PySem.W.Frag) (F0 T F : Hp) (G : GD) (H : Hp) : Prop where
  ff : Ex F0 F
  ft : ∀ a o, F a = some o → F0 a = some o ∨ T a = none
  fh : Ex F H
  gh : ∀ a d, G a = some d → Own K F H a d
  fg : ∀ a o, G a = some o → F a = none
  gt : ∀ a o, G a = some o → T a = none
  tk : Ex T H
def SlotOk (K : PySem.W.Frag) (T F : Hp) (G : GD) (H : Hp) : Sl → Option (Option V) → Prop
  | .no, _ => True
  | .sh d, x => ∃ v, x = some (some v) ∧ Rep K F d v
  | .own d, x => ∃ p, x = some (some (.ref p)) ∧ Own K F H p d ∧ F p = none ∧ G p = none ∧ T p = none
structure Sta (K : PySem.W.Frag) (F0 T F : Hp) (G : GD) (H : Hp) (r : Env2) (σ : L2.St) : Prop where
  bas : Bas K F0 T F G H
  len : r.length = σ.length
  sl : ∀ (i : Nat) (s : Sl), r[i]? = some s → SlotOk K T F G H s σ[i]?
  ap : ∀ (i j : Nat) (d e : D), i ≠ j → r[i]? = some (.own d) → r[j]? = some (.own e) → σ[i]? ≠ σ[j]?
def ResOk (K : PySem.W.Frag) (T F : Hp) (G : GD) (H : Hp) (r : Env2) (σ : L2.St) : Res → V → Prop
  | .sh d, v => Rep K F d v
  | .fr d, v => ∃ p, v = .ref p ∧ Own K F H p d ∧ F p = none ∧ G p = none ∧ T p = none ∧ ∀ (i : Nat) (e : D), r[i]? = some (.own e) → σ[i]? ≠ some (some (.ref p))
  | .pk i, v => σ[i]? = some (some v) ∧ ∃ d, r[i]? = some (.own d)
/-- the view of a result -/
def vw (r : Env2) : Res → Option D
  | .sh d => some d
  | .fr d => if isDic d then none else some d
  | .pk i => match r[i]? with
    | some (.own d) => some d
    | some (.sh d) => some d
    | _ => none
/-- the view of a result, or of an object of the open region -/
def VwR (r : Env2) (G : GD) (x : Res) (d : D) : Prop := vw r x = some d ∨ ∃ a, x = .sh (.adr a) ∧ G a = some d
def RtOk (K : PySem.W.Frag) (T F : Hp) (G : GD) (H : Hp) : Res → V → Prop
  | .sh d, v => Rep K F d v
  | .fr d, v => ∃ p, v = .ref p ∧ Own K F H p d ∧ F p = none ∧ G p = none ∧ T p = none
  | .pk _, _ => False
section
variable {K : PySem.W.Frag} {F0 T F : Hp} {G : GD} {H : Hp} {r : Env2} {σ : L2.St}
theorem Sta.slot (S : Sta K F0 T F G H r σ) {i : Nat} {d : D} (h : r[i]? = some (.sh d)) : ∃ v, σ[i]? = some (some v) ∧ Rep K F d v := S.sl i _ h
theorem Sta.ownS (S : Sta K F0 T F G H r σ) {i : Nat} {d : D} (h : r[i]? = some (.own d)) : ∃ p, σ[i]? = some (some (.ref p)) ∧ Own K F H p d ∧ F p = none ∧ G p = none ∧ T p = none := S.sl i _ h
theorem Bas.gh' (B : Bas K F0 T F G H) {a : Addr} {d : D} (h : G a = some d) : ∃ o, H a = some o := (B.gh a d h).there
theorem Bas.freshF (B : Bas K F0 T F G H) {p : Addr} (hp : H p = none) : F p = none ∧ G p = none ∧ T p = none := by
  refine ⟨?_, ?_, ?_⟩
  · cases e : F p with
    | none => rfl
    | some u => rw [B.fh p u e] at hp; cases hp
  · cases e : G p with
    | none => rfl
    | some u => obtain ⟨o, ho⟩ := B.gh' e; rw [ho] at hp; cases hp
  · cases e : T p with
    | none => rfl
    | some u => rw [B.tk p u e] at hp; cases hp
/-- the open objects, while F and H grow -/
theorem Bas.gmono (B : Bas K F0 T F G H) {F' H' : Hp} (ef : Ex F F') (eh : ∀ a o, G a ≠ none → H a = some o → H' a = some o) : ∀ a d, G a = some d → Own K F' H' a d := fun a d h =>
  (B.gh a d h).mono ef fun o ho => eh a o (by rw [h]; exact fun z => nomatch z) ho
/-- the frozen part grows by a new object, others keep -/
theorem Bas.newF (B : Bas K F0 T F G H) {p : Addr} {o : HO} (hp : H p = none) : Bas K F0 T (upd F p o) G (upd H p o) := by
  obtain ⟨fp, gp, tp⟩ := B.freshF hp
  refine ⟨B.ff.trans (Ex.new fp), fun a o' e => ?_, fun a o' e => ?_, B.gmono (Ex.new fp) fun a u _ h => Ex.new hp a u h, fun a o' e => ?_, B.gt, B.tk.trans (Ex.new hp)⟩
  · by_cases h : a = p
    · subst h; exact .inr tp
    · rw [upd_ne h] at e; exact B.ft a o' e
  · by_cases h : a = p
    · subst h; rw [upd_same] at e ⊢; exact e
    · rw [upd_ne h] at e ⊢; exact B.fh a o' e
  · by_cases h : a = p
    · subst h; rw [gp] at e; cases e
    · rw [upd_ne h]; exact B.fg a o' e
/-- a new object that is not frozen -/
theorem Bas.newH (B : Bas K F0 T F G H) {p : Addr} {o : HO} (hp : H p = none) : Bas K F0 T F G (upd H p o) :=
  ⟨B.ff, B.ft, B.fh.trans (Ex.new hp), B.gmono (Ex.refl _) fun a u _ h => Ex.new hp a u h, B.fg, B.gt, B.tk.trans (Ex.new hp)⟩
/-- an object that nobody else knows is written -/
theorem Bas.put (B : Bas K F0 T F G H) {p : Addr} {o : HO} (h1 : F p = none) (h2 : G p = none) (h3 : T p = none) : Bas K F0 T F G (upd H p o) := by
  refine ⟨B.ff, B.ft, fun a u e => ?_, B.gmono (Ex.refl _) fun a u hg e => ?_, B.fg, B.gt, fun a u e => ?_⟩
  · rw [upd_ne (ne_of_none e h1)]; exact B.fh a u e
  · rw [upd_ne (fun z => hg (by rw [z]; exact h2))]; exact e
  · rw [upd_ne (ne_of_none e h3)]; exact B.tk a u e
theorem Bas.frz (B : Bas K F0 T F G H) {p : Addr} {o : HO} (ho : H p = some o) (h1 : F p = none) (h2 : G p = none) (h3 : T p = none) : Bas K F0 T (upd F p o) G H := by
  refine ⟨B.ff.trans (Ex.new h1), fun a u e => ?_, fun a u e => ?_, B.gmono (Ex.new h1) fun _ _ _ h => h, fun a u e => ?_, B.gt, B.tk⟩
  · by_cases h : a = p
    · subst h; exact .inr h3
    · rw [upd_ne h] at e; exact B.ft a u e
  · by_cases h : a = p
    · subst h; rw [upd_same] at e; cases e; exact ho
    · rw [upd_ne h] at e; exact B.fh a u e
  · by_cases h : a = p
    · subst h; rw [h2] at e; cases e
    · rw [upd_ne h]; exact B.fg a u e
/-- the slots stand when F, H grow and the own objects keep -/
theorem Sta.grow {F' : Hp} {G' : GD} {H' : Hp} {F0' T' : Hp} (S : Sta K F0 T F G H r σ) (B : Bas K F0' T' F' G' H') (ef : Ex F F')
    (ko : ∀ p, F p = none → G p = none → T p = none → (∃ o, H p = some o) → (∀ o, H p = some o → H' p = some o) ∧ F' p = none ∧ G' p = none ∧ T' p = none) : Sta K F0' T' F' G' H' r σ := by
  refine ⟨B, S.len, fun i s e => ?_, S.ap⟩
  have h := S.sl i s e
  cases s with
  | no => trivial
  | sh d => obtain ⟨v, h1, h2⟩ := h; exact ⟨v, h1, Rep.mono ef _ _ h2⟩
  | own d =>
    obtain ⟨p, h1, h2, h3, h4, h5⟩ := h
    obtain ⟨k1, k2, k3, k4⟩ := ko p h3 h4 h5 h2.there
    exact ⟨p, h1, h2.mono ef k1, k2, k3, k4⟩
theorem Sta.newF (S : Sta K F0 T F G H r σ) {p : Addr} {o : HO} (hp : H p = none) : Sta K F0 T (upd F p o) G (upd H p o) r σ := by
  refine S.grow (S.bas.newF hp) (Ex.new (S.bas.freshF hp).1) fun q h1 h2 h3 ⟨u, hu⟩ => ?_
  have hq : q ≠ p := fun z => by subst z; rw [hp] at hu; cases hu
  exact ⟨fun o' e => by rw [upd_ne hq]; exact e, by rw [upd_ne hq]; exact h1, h2, h3⟩
theorem Sta.newH (S : Sta K F0 T F G H r σ) {p : Addr} {o : HO} (hp : H p = none) : Sta K F0 T F G (upd H p o) r σ := by
  refine S.grow (S.bas.newH hp) (Ex.refl _) fun q h1 h2 h3 ⟨u, hu⟩ => ?_
  have hq : q ≠ p := fun z => by subst z; rw [hp] at hu; cases hu
  exact ⟨fun o' e => by rw [upd_ne hq]; exact e, h1, h2, h3⟩
theorem Sta.freshR (S : Sta K F0 T F G H r σ) {p : Addr} (hp : H p = none) : ∀ (i : Nat) (e : D), r[i]? = some (.own e) → σ[i]? ≠ some (some (.ref p)) := fun i e he z => by
  obtain ⟨q, h1, h2, _⟩ := S.ownS he
  rw [z] at h1
  cases h1
  obtain ⟨o, ho⟩ := h2.there
  rw [hp] at ho; cases ho
/-- a slot is stored -/
theorem Sta.set (S : Sta K F0 T F G H r σ) {i : Nat} {s : Sl} {v : V} (hi : i < r.length) (h : SlotOk K T F G H s (some (some v))) (ha : ∀ d, s = .own d → ∀ (j : Nat) (e : D), r[j]? = some (.own e) → j ≠ i → σ[j]? ≠ some (some v)) : Sta K F0 T F G H (r.set i s) (σ.set i (some v)) := by
  have hiσ : i < σ.length := by rw [← S.len]; exact hi
  refine ⟨S.bas, by rw [List.length_set, List.length_set]; exact S.len, fun j s' e => ?_, fun j k d e hjk ej ek => ?_⟩
  · by_cases hj : i = j
    · subst hj
      rw [List.getElem?_set_self hi] at e
      cases e
      rw [List.getElem?_set_self hiσ]
      exact h
    · rw [List.getElem?_set_ne hj] at e ⊢
      exact S.sl j s' e
  · by_cases hj : i = j
    · subst hj
      rw [List.getElem?_set_self hi] at ej
      cases ej
      rw [List.getElem?_set_ne hjk] at ek
      rw [List.getElem?_set_self hiσ, List.getElem?_set_ne hjk]
      exact fun z => ha d rfl k e ek (Ne.symm hjk) z.symm
    · rw [List.getElem?_set_ne hj] at ej
      by_cases hk : i = k
      · subst hk
        rw [List.getElem?_set_self hi] at ek
        cases ek
        rw [List.getElem?_set_self hiσ, List.getElem?_set_ne hj]
        exact ha e rfl j d ej hjk
      · rw [List.getElem?_set_ne hk] at ek
        rw [List.getElem?_set_ne hj, List.getElem?_set_ne hk]
        exact S.ap j k d e hjk ej ek
/-- knowledge about slots is forgotten -/
inductive Wk : Env2 → Env2 → Prop
  | nil : Wk [] []
  | no {s : Sl} {a b : Env2} (h : Wk a b) : Wk (s :: a) (.no :: b)
  | eq {s : Sl} {a b : Env2} (h : Wk a b) : Wk (s :: a) (s :: b)
theorem Wk.get {a b : Env2} (w : Wk a b) : ∀ (i : Nat) (s : Sl), b[i]? = some s → s = .no ∨ a[i]? = some s := by
  induction w with
  | nil => intro i s h; simp at h
  | no _ ih =>
    intro i s h
    cases i with
    | zero => left; simpa using h.symm
    | succ i => simpa using ih i s (by simpa using h)
  | eq _ ih =>
    intro i s h
    cases i with
    | zero => right; simpa using h
    | succ i => simpa using ih i s (by simpa using h)
theorem Wk.len {a b : Env2} (w : Wk a b) : b.length = a.length := by
  induction w with
  | nil => rfl
  | no _ ih => simp [ih]
  | eq _ ih => simp [ih]
theorem Wk.refl : ∀ (a : Env2), Wk a a
  | [] => .nil
  | _ :: a => .eq (Wk.refl a)
theorem Sta.weak {r' : Env2} (S : Sta K F0 T F G H r σ) (w : Wk r r') : Sta K F0 T F G H r' σ := by
  refine ⟨S.bas, by rw [w.len]; exact S.len, fun i s e => ?_, fun i j d e hij ei ej => ?_⟩
  · rcases w.get i s e with z | z
    · subst z; trivial
    · exact S.sl i s z
  · rcases w.get i _ ei with z | z
    · cases z
    · rcases w.get j _ ej with y | y
      · cases y
      · exact S.ap i j d e hij z y
/-- an own slot is frozen -/
theorem Sta.frzSlot (S : Sta K F0 T F G H r σ) {i : Nat} {d : D} (hD : isDic d = false) (h : r[i]? = some (.own d)) : ∃ F', Ex F F' ∧ Sta K F0 T F' G H (r.set i (.sh d)) σ ∧ ∃ v, σ[i]? = some (some v) ∧ Rep K F' d v := by
  obtain ⟨p, h1, h2, h3, h4, h5⟩ := S.ownS h
  obtain ⟨o, ho⟩ := h2.there
  have hi : i < r.length := (List.getElem?_eq_some_iff.mp h).1
  have ef : Ex F (upd F p o) := Ex.new h3
  have rp : Rep K (upd F p o) d (.ref p) := by
    cases d with
    | lst ds =>
      obtain ⟨vs, q1, q2⟩ := h2
      rw [ho] at q1; cases q1
      exact ⟨p, vs, rfl, .inl upd_same, RepL.mono ef _ _ q2⟩
    | dic ks ds => cases hD
    | obj C ns ds => cases hD
    | slo C dx is ds => cases hD
    | xdo x b => cases hD
    | tab q => cases hD
    | kd w ks ds => cases hD
    | _ => exact h2.elim
  refine ⟨upd F p o, ef, ⟨S.bas.frz ho h3 h4 h5, by rw [List.length_set]; exact S.len, fun j s e => ?_, fun j k d' e' hjk ej ek => ?_⟩, .ref p, h1, rp⟩
  · by_cases hj : i = j
    · subst hj
      rw [List.getElem?_set_self hi] at e
      cases e
      exact ⟨_, h1, rp⟩
    · rw [List.getElem?_set_ne hj] at e
      have q := S.sl j s e
      cases s with
      | no => trivial
      | sh d' => obtain ⟨v, q1, q2⟩ := q; exact ⟨v, q1, Rep.mono ef _ _ q2⟩
      | own d' =>
        obtain ⟨p', q1, q2, q3, q4, q5⟩ := q
        have hpp : p' ≠ p := fun z => by
          subst z
          exact S.ap i j d d' hj h e (h1.trans q1.symm)
        exact ⟨p', q1, q2.mono ef fun _ z => z, by rw [upd_ne hpp]; exact q3, q4, q5⟩
  · have hj : i ≠ j := fun z => by
      subst z
      rw [List.getElem?_set_self hi] at ej; cases ej
    have hk : i ≠ k := fun z => by
      subst z
      rw [List.getElem?_set_self hi] at ek; cases ek
    rw [List.getElem?_set_ne hj] at ej
    rw [List.getElem?_set_ne hk] at ek
    exact S.ap j k d' e' hjk ej ek
/-- a fresh result is frozen -/
theorem Sta.frzRes (S : Sta K F0 T F G H r σ) {d : D} {v : V} (hD : isDic d = false) (h : ResOk K T F G H r σ (.fr d) v) : ∃ F', Ex F F' ∧ Sta K F0 T F' G H r σ ∧ Rep K F' d v := by
  obtain ⟨p, rfl, h2, h3, h4, h5, h6⟩ := h
  obtain ⟨o, ho⟩ := h2.there
  have ef : Ex F (upd F p o) := Ex.new h3
  have rp : Rep K (upd F p o) d (.ref p) := by
    cases d with
    | lst ds =>
      obtain ⟨vs, q1, q2⟩ := h2
      rw [ho] at q1; cases q1
      exact ⟨p, vs, rfl, .inl upd_same, RepL.mono ef _ _ q2⟩
    | dic ks ds => cases hD
    | obj C ns ds => cases hD
    | slo C dx is ds => cases hD
    | xdo x b => cases hD
    | tab q => cases hD
    | kd w ks ds => cases hD
    | _ => exact h2.elim
  refine ⟨upd F p o, ef, ⟨S.bas.frz ho h3 h4 h5, S.len, fun j s e => ?_, S.ap⟩, rp⟩
  have q := S.sl j s e
  cases s with
  | no => trivial
  | sh d' => obtain ⟨v, q1, q2⟩ := q; exact ⟨v, q1, Rep.mono ef _ _ q2⟩
  | own d' =>
    obtain ⟨p', q1, q2, q3, q4, q5⟩ := q
    have hpp : p' ≠ p := fun z => by
      subst z
      exact h6 j d' e q1
    exact ⟨p', q1, q2.mono ef fun _ z => z, by rw [upd_ne hpp]; exact q3, q4, q5⟩
/-- the view of a result -/
theorem Sta.view (S : Sta K F0 T F G H r σ) {x : Res} {v : V} {d : D} (h : ResOk K T F G H r σ x v) (e : vw r x = some d) : Vw K F H d v := by
  cases x with
  | sh d' => cases e; exact .inl h
  | fr d' =>
    have e' : (if isDic d' then none else some d') = some d := e
    split at e'
    · cases e'
    · cases e'; obtain ⟨p, h1, h2, _⟩ := h; exact .inr ⟨p, h1, h2⟩
  | pk i =>
    obtain ⟨h1, d', h2⟩ := h
    have e' : (match r[i]? with | some (.own d) => some d | some (.sh d) => some d | _ => none) = some d := e
    rw [h2] at e'
    cases e'
    obtain ⟨p, q1, q2, _⟩ := S.ownS h2
    rw [h1] at q1
    cases q1
    exact .inr ⟨p, rfl, q2⟩
theorem Sta.viewR (S : Sta K F0 T F G H r σ) {x : Res} {v : V} {d : D} (h : ResOk K T F G H r σ x v) (e : VwR r G x d) : Vw K F H d v := by
  rcases e with e | ⟨a, rfl, hG⟩
  · exact S.view h e
  · cases (show v = .ref a from h)
    exact .inr ⟨a, rfl, S.bas.gh _ _ hG⟩
end
def Run (X : Cx) (e : Expr) : TE := fun σ H Q => ∀ (pins : List (Addr × Obj)) (s : Shared), Inv X pins σ H s → wpAny (model X.prog X.w) X.A (eval e X.env) (EP X pins σ Q) X.xe s
def RunT (X : Cx) (e : Expr) : TT := fun σ H Q => ∀ (pins : List (Addr × Obj)) (s : Shared), Inv X pins σ H s → wpAny (model X.prog X.w) X.A (isTrue e X.env (eval e X.env)) (TP X pins σ Q) X.xe s
def RunW (X : Cx) (e : Expr) : TT := fun σ H Q => ∀ (whole : Sem Value) (pins : List (Addr × Obj)) (s : Shared), Inv X pins σ H s → wpAny (model X.prog X.w) X.A (isTrue e X.env whole) (TP X pins σ Q) X.xe s
def RunA (X : Cx) (es : List Expr) : TA := fun σ H Q => ∀ (pos : Pos) (pins : List (Addr × Obj)) (s : Shared), Inv X pins σ H s → wpAny (model X.prog X.w) X.A (spliced (backTo pos (starEach es X.env))) (AP X pins σ Q) X.xe s
def RunS (X : Cx) (st : Stmt) : TS := fun D σ H => ∀ (pins : List (Addr × Obj)) (s : Shared), Inv X pins σ H s → wpAny (model X.prog X.w) X.A (exec st X.env) (SP X pins D) X.xe s
def RunB (X : Cx) (st : List Stmt) : TS := fun D σ H => ∀ (pins : List (Addr × Obj)) (s : Shared), Inv X pins σ H s → wpAny (model X.prog X.w) X.A (execs st X.env) (SP X pins D) X.xe s
section
variable {X : Cx} {e : Expr} {es : List Expr} {st : Stmt} {sts : List Stmt} {σ : L2.St} {H : Hp}
theorem peR : PE X e (Run X e) := ⟨fun pins s _ _ _ I h => h pins s I⟩
theorem ptR : PT X e (RunT X e) := ⟨fun pins s _ _ _ I h => h pins s I⟩
theorem pwR : PW X e (RunW X e) := ⟨fun w pins s _ _ _ I h => h w pins s I⟩
theorem paR : PA X es (RunA X es) := ⟨fun pos pins s _ _ _ I h => h pos pins s I⟩
theorem psR : PS X st (RunS X st) := ⟨fun pins s _ _ _ I h => h pins s I⟩
theorem pbR : PSs X sts (RunB X sts) := ⟨fun pins s _ _ _ I h => h pins s I⟩
theorem Run.of {t : TE} {Q : VK} (h : PE X e t) (q : t σ H Q) : Run X e σ H Q := fun pins s I => h.run pins s σ H Q I q
theorem RunT.of {t : TT} {Q : Bool → Hp → Prop} (h : PT X e t) (q : t σ H Q) : RunT X e σ H Q := fun pins s I => h.run pins s σ H Q I q
theorem RunW.of {t : TT} {Q : Bool → Hp → Prop} (h : PW X e t) (q : t σ H Q) : RunW X e σ H Q := fun w pins s I => h.run w pins s σ H Q I q
theorem RunA.of {t : TA} {Q : List V → Hp → Prop} (h : PA X es t) (q : t σ H Q) : RunA X es σ H Q := fun pos pins s I => h.run pos pins s σ H Q I q
theorem RunS.of {t : TS} {D : Ends} (h : PS X st t) (q : t D σ H) : RunS X st D σ H := fun pins s I => h.run pins s σ H D I q
theorem RunB.of {t : TS} {D : Ends} (h : PSs X sts t) (q : t D σ H) : RunB X sts D σ H := fun pins s I => h.run pins s σ H D I q
theorem Run.mono {Q Q' : VK} (h : Run X e σ H Q) (k : ∀ v H', Q v H' → Q' v H') : Run X e σ H Q' := fun pins s I =>
  wpAny_mono (h pins s I) (fun _ _ ⟨v, H', I', r, q⟩ => ⟨v, H', I', r, k v H' q⟩) fun _ _ x => x
theorem RunT.mono {Q Q' : Bool → Hp → Prop} (h : RunT X e σ H Q) (k : ∀ v H', Q v H' → Q' v H') : RunT X e σ H Q' := fun pins s I =>
  wpAny_mono (h pins s I) (fun _ _ ⟨H', I', q⟩ => ⟨H', I', k _ H' q⟩) fun _ _ x => x
theorem RunA.mono {Q Q' : List V → Hp → Prop} (h : RunA X es σ H Q) (k : ∀ v H', Q v H' → Q' v H') : RunA X es σ H Q' := fun pos pins s I =>
  wpAny_mono (h pos pins s I) (fun _ _ ⟨vs, H', I', r, q⟩ => ⟨vs, H', I', r, k _ H' q⟩) fun _ _ x => x
theorem SP.mono {pins : List (Addr × Obj)} {D D' : Ends} {f : Flow} {s : Shared} (h : SP X pins D f s) (k1 : ∀ σ H, D.nx σ H → D'.nx σ H) (k2 : ∀ v H, D.rt v H → D'.rt v H) (k3 : ∀ σ H, D.bk σ H → D'.bk σ H) (k4 : ∀ σ H, D.ct σ H → D'.ct σ H) : SP X pins D' f s := by
  cases f with
  | next => obtain ⟨a, b, c, d⟩ := h; exact ⟨a, b, c, k1 _ _ d⟩
  | brk => obtain ⟨a, b, c, d⟩ := h; exact ⟨a, b, c, k3 _ _ d⟩
  | cont => obtain ⟨a, b, c, d⟩ := h; exact ⟨a, b, c, k4 _ _ d⟩
  | ret u => obtain ⟨v, a, b, c, r, d⟩ := h; exact ⟨v, a, b, c, r, k2 _ _ d⟩
theorem RunS.mono {D D' : Ends} (h : RunS X st D σ H) (k1 : ∀ σ H, D.nx σ H → D'.nx σ H) (k2 : ∀ v H, D.rt v H → D'.rt v H) (k3 : ∀ σ H, D.bk σ H → D'.bk σ H) (k4 : ∀ σ H, D.ct σ H → D'.ct σ H) : RunS X st D' σ H := fun pins s I =>
  wpAny_mono (h pins s I) (fun _ _ q => SP.mono q k1 k2 k3 k4) fun _ _ x => x
theorem RunB.mono {D D' : Ends} (h : RunB X sts D σ H) (k1 : ∀ σ H, D.nx σ H → D'.nx σ H) (k2 : ∀ v H, D.rt v H → D'.rt v H) (k3 : ∀ σ H, D.bk σ H → D'.bk σ H) (k4 : ∀ σ H, D.ct σ H → D'.ct σ H) : RunB X sts D' σ H := fun pins s I =>
  wpAny_mono (h pins s I) (fun _ _ q => SP.mono q k1 k2 k3 k4) fun _ _ x => x
end
structure Exn where
  cls : Value
  fs : List (Str × D)
structure Cy extends L2.Cx where
  F0 : Hp
  T : Hp
  QX : Exn → Env2 → GD → Prop
instance : Coe Cy L2.Cx := ⟨Cy.toCx⟩
instance : CoeHead Cy L2.Cx := ⟨Cy.toCx⟩
structure Lk (X : Cy) (F0 T : Hp) : Prop where
  t : Ex X.T T
  f : Ex X.F0 F0
  ft : ∀ a o, F0 a = some o → X.F0 a = some o ∨ X.T a = none
theorem none_of {A B : Hp} (e : Ex A B) {a : Addr} (h : B a = none) : A a = none := by
  cases q : A a with
  | none => rfl
  | some o => rw [e a o q] at h; cases h
theorem Lk.base {X : Cy} {F0 T F : Hp} {G : GD} {H : Hp} (lk : Lk X F0 T) (B : Bas X.K F0 T F G H) : Lk X F T :=
  ⟨lk.t, lk.f.trans B.ff, fun a o h => (B.ft a o h).elim (fun z => lk.ft a o z) fun z => .inr (none_of lk.t z)⟩
theorem Lk.ext {X : Cy} {F0 T T' : Hp} (lk : Lk X F0 T) (e : Ex T T') : Lk X F0 T' := ⟨lk.t.trans e, lk.f, lk.ft⟩
theorem Lk.bas {X : Cy} {K : PySem.W.Frag} {F0 T F : Hp} {G : GD} {H : Hp} (lk : Lk X F0 T) (B : Bas K F0 T F G H) : Bas K X.F0 X.T F G H :=
  ⟨lk.f.trans B.ff, fun a o h => (B.ft a o h).elim (fun z => lk.ft a o z) fun z => .inr (none_of lk.t z), B.fh, B.gh, B.fg, fun a o h => none_of lk.t (B.gt a o h), lk.t.trans B.tk⟩
theorem Lk.sta {X : Cy} {K : PySem.W.Frag} {F0 T F : Hp} {G : GD} {H : Hp} {r : Env2} {σ : L2.St} (lk : Lk X F0 T) (S : Sta K F0 T F G H r σ) : Sta K X.F0 X.T F G H r σ := by
  refine ⟨lk.bas S.bas, S.len, fun i s e => ?_, S.ap⟩
  have h := S.sl i s e
  cases s with
  | no => trivial
  | sh d => exact h
  | own d =>
    obtain ⟨p, h1, h2, h3, h4, h5⟩ := h
    exact ⟨p, h1, h2, h3, h4, none_of lk.t h5⟩
/-- an exception (its class, its dict) as data -/
def ExOk (K : PySem.W.Frag) (F : Hp) (cls : Value) (d : Option Addr) (x : Exn) : Prop :=
  x.cls = cls ∧ ((d = none ∧ x.fs = []) ∨ ∃ a vs, d = some a ∧ F a = some (.xd ((x.fs.map (·.1)).zip vs)) ∧ RepL K F (x.fs.map (·.2)) vs)
theorem ExOk.mono {K : PySem.W.Frag} {F F' : Hp} {cls : Value} {d : Option Addr} {x : Exn} (e : Ex F F') (h : ExOk K F cls d x) : ExOk K F' cls d x := by
  obtain ⟨h1, ⟨h2, h3⟩ | ⟨a, vs, h2, h3, h4⟩⟩ := h
  · exact ⟨h1, .inl ⟨h2, h3⟩⟩
  · exact ⟨h1, .inr ⟨a, vs, h2, e _ _ h3, RepL.mono e _ _ h4⟩⟩
/-- the wish of a context -/
def Cy.WX (X : Cy) : L2.WX := fun cls d σ H => ∃ r G F x, Sta X.K X.F0 X.T F G H r σ ∧ ExOk X.K F cls d x ∧ X.QX x r G
def Cy.Tk (X : Cy) : Prop := L2.Takes X.toCx X.WX
def PostE (K : PySem.W.Frag) (F0 T F : Hp) (σ : L2.St) (Q : Res → Env2 → GD → Prop) : VK := fun v H' =>
  ∃ x r' G' F', Ex F F' ∧ Sta K F0 T F' G' H' r' σ ∧ ResOk K T F' G' H' r' σ x v ∧ Q x r' G'
def WE (X : Cy) (e : Expr) (r : Env2) (G : GD) (Q : Res → Env2 → GD → Prop) : Prop :=
  ∀ (F0 T F H : Hp) (σ : L2.St), Lk X F0 T → Sta X.K F0 T F G H r σ → Run X e σ H (PostE X.K F0 T F σ Q)
def PostT (K : PySem.W.Frag) (F0 T F : Hp) (σ : L2.St) (Q : Bool → Env2 → GD → Prop) : Bool → Hp → Prop := fun b H' =>
  ∃ r' G' F', Ex F F' ∧ Sta K F0 T F' G' H' r' σ ∧ Q b r' G'
def WT (X : Cy) (e : Expr) (r : Env2) (G : GD) (Q : Bool → Env2 → GD → Prop) : Prop :=
  ∀ (F0 T F H : Hp) (σ : L2.St), Lk X F0 T → Sta X.K F0 T F G H r σ → RunT X e σ H (PostT X.K F0 T F σ Q)
def WW (X : Cy) (e : Expr) (r : Env2) (G : GD) (Q : Bool → Env2 → GD → Prop) : Prop :=
  ∀ (F0 T F H : Hp) (σ : L2.St), Lk X F0 T → Sta X.K F0 T F G H r σ → RunW X e σ H (PostT X.K F0 T F σ Q)
def PostA (K : PySem.W.Frag) (F0 T F : Hp) (σ : L2.St) (Q : List D → Env2 → GD → Prop) : List V → Hp → Prop := fun vs H' =>
  ∃ ds r' G' F', Ex F F' ∧ Sta K F0 T F' G' H' r' σ ∧ RepL K F' ds vs ∧ Q ds r' G'
def WA (X : Cy) (es : List Expr) (r : Env2) (G : GD) (Q : List D → Env2 → GD → Prop) : Prop :=
  ∀ (F0 T F H : Hp) (σ : L2.St), Lk X F0 T → Sta X.K F0 T F G H r σ → RunA X es σ H (PostA X.K F0 T F σ Q)
structure EndsD where
  nx : Env2 → GD → Prop
  rt : Res → GD → Prop
  bk : Env2 → GD → Prop := fun _ _ => False
  ct : Env2 → GD → Prop := fun _ _ => False
def PostN (K : PySem.W.Frag) (F0 T : Hp) (Q : Env2 → GD → Prop) : L2.St → Hp → Prop := fun σ' H' => ∃ r' G' F', Sta K F0 T F' G' H' r' σ' ∧ Q r' G'
def PostR (K : PySem.W.Frag) (F0 T : Hp) (Q : Res → GD → Prop) : VK := fun v H' => ∃ x G' F', Bas K F0 T F' G' H' ∧ RtOk K T F' G' H' x v ∧ Q x G'
def EndsD.at (K : PySem.W.Frag) (F0 T : Hp) (D : EndsD) : Ends := { nx := PostN K F0 T D.nx, rt := PostR K F0 T D.rt, bk := PostN K F0 T D.bk, ct := PostN K F0 T D.ct }
def WS (X : Cy) (st : Stmt) (r : Env2) (G : GD) (D : EndsD) : Prop :=
  ∀ (F0 T F H : Hp) (σ : L2.St), Lk X F0 T → Sta X.K F0 T F G H r σ → RunS X st (D.at X.K F0 T) σ H
def WB (X : Cy) (sts : List Stmt) (r : Env2) (G : GD) (D : EndsD) : Prop :=
  ∀ (F0 T F H : Hp) (σ : L2.St), Lk X F0 T → Sta X.K F0 T F G H r σ → RunB X sts (D.at X.K F0 T) σ H
/-- freezing a result -/
def fz (r : Env2) : Res → Option (D × Env2)
  | .sh d => some (d, r)
  | .fr d => if isDic d then none else some (d, r)
  | .pk i => match r[i]? with
    | some (.own d) => if isDic d then none else some (d, r.set i (.sh d))
    | _ => none
section
variable {X : Cy} {e a b c : Expr} {es : List Expr} {st : Stmt} {sts rest : List Stmt} {r : Env2} {G : GD} {pos : Pos}
theorem Sta.fz {K : PySem.W.Frag} {F0 T F : Hp} {G : GD} {H : Hp} {r r2 : Env2} {σ : L2.St} {x : Res} {v : V} {d : D} (S : Sta K F0 T F G H r σ) (h : ResOk K T F G H r σ x v) (e : fz r x = some (d, r2)) : ∃ F', Ex F F' ∧ Sta K F0 T F' G H r2 σ ∧ Rep K F' d v := by
  cases x with
  | sh d' => cases e; exact ⟨F, Ex.refl _, S, h⟩
  | fr d' =>
    have e' : (if isDic d' then none else some (d', r)) = some (d, r2) := e
    cases hD : isDic d' with
    | true => rw [hD] at e'; cases e'
    | false =>
      rw [hD] at e'
      cases e'
      exact S.frzRes hD h
  | pk i =>
    obtain ⟨h1, d', h2⟩ := h
    have e' : (match r[i]? with | some (.own d) => if isDic d then none else some (d, r.set i (.sh d)) | _ => none) = some (d, r2) := e
    rw [h2] at e'
    dsimp only at e'
    have hD : isDic d' = false := by
      cases hD : isDic d' with
      | true => rw [hD] at e'; cases e'
      | false => rfl
    rw [hD] at e'
    cases e'
    obtain ⟨F', k1, k2, v', k3, k4⟩ := S.frzSlot hD h2
    rw [h1] at k3
    cases k3
    exact ⟨F', k1, k2, k4⟩
theorem WE.mono {Q Q' : Res → Env2 → GD → Prop} (h : WE X e r G Q) (k : ∀ x r' G', Q x r' G' → Q' x r' G') : WE X e r G Q' := fun F0 T F H σ lk S =>
  (h F0 T F H σ lk S).mono fun _ _ ⟨x, r', G', F', a, b, c, q⟩ => ⟨x, r', G', F', a, b, c, k _ _ _ q⟩
theorem WT.mono {Q Q' : Bool → Env2 → GD → Prop} (h : WT X e r G Q) (k : ∀ x r' G', Q x r' G' → Q' x r' G') : WT X e r G Q' := fun F0 T F H σ lk S =>
  (h F0 T F H σ lk S).mono fun _ _ ⟨r', G', F', a, b, q⟩ => ⟨r', G', F', a, b, k _ _ _ q⟩
theorem WB.mono {D D' : EndsD} (h : WB X sts r G D) (k1 : ∀ r G, D.nx r G → D'.nx r G) (k2 : ∀ x G, D.rt x G → D'.rt x G) (k3 : ∀ r G, D.bk r G → D'.bk r G) (k4 : ∀ r G, D.ct r G → D'.ct r G) : WB X sts r G D' := fun F0 T F H σ lk S =>
  (h F0 T F H σ lk S).mono (fun _ _ ⟨r', G', F', a, q⟩ => ⟨r', G', F', a, k1 _ _ q⟩) (fun _ _ ⟨x, G', F', a, b, q⟩ => ⟨x, G', F', a, b, k2 _ _ q⟩) (fun _ _ ⟨r', G', F', a, q⟩ => ⟨r', G', F', a, k3 _ _ q⟩) (fun _ _ ⟨r', G', F', a, q⟩ => ⟨r', G', F', a, k4 _ _ q⟩)
theorem WB.weak {r' : Env2} {D : EndsD} (w : Wk r r') (h : WB X sts r' G D) : WB X sts r G D := fun F0 T F H σ lk S => h F0 T F H σ lk (S.weak w)
theorem we_const {v : V} {d : D} {Q : Res → Env2 → GD → Prop} (h : PE X e (tC v)) (hd : ∀ K F, Rep K F d v) (q : Q (.sh d) r G) : WE X e r G Q := fun F0 T F H σ lk S =>
  Run.of h ⟨.sh d, r, G, F, Ex.refl _, S, hd _ _, q⟩
theorem we_int {i : Int} {j} {Q : Res → Env2 → GD → Prop} (q : Q (.sh (.int i)) r G) : WE X (.Constant (.int i) j pos) r G Q := we_const (d := .int i) pe_int (fun _ _ => rfl) q
theorem we_bl {i : Bool} {j} {Q : Res → Env2 → GD → Prop} (q : Q (.sh (.bl i)) r G) : WE X (.Constant (.bool i) j pos) r G Q := we_const (d := .bl i) pe_bl (fun _ _ => rfl) q
theorem we_str {i : Str} {j} {Q : Res → Env2 → GD → Prop} (q : Q (.sh (.str i)) r G) : WE X (.Constant (.str i) j pos) r G Q := we_const (d := .str i) pe_str (fun _ _ => rfl) q
theorem we_non {j} {Q : Res → Env2 → GD → Prop} (q : Q (.sh .non) r G) : WE X (.Constant .none j pos) r G Q := we_const (d := .non) pe_non (fun _ _ => rfl) q
/-- what reading a slot gives -/
def rdS (r : Env2) (i : Nat) : Option Res := match r[i]? with
  | some (.sh d) => some (.sh d)
  | some (.own _) => some (.pk i)
  | _ => none
theorem we_var (i : Nat) {x : Str} {y : Res} {Q : Res → Env2 → GD → Prop} (hN : X.N[i]? = some x) (hv : Vis X.env.scope x) (hy : rdS r i = some y) (q : Q y r G) (hd : (x == ("__debug__" : Str)) = false := by decide) (hcd : (x == ("__classdict__" : Str)) = false := by decide) :
    WE X (.Name x pos) r G Q := fun F0 T F H σ lk S => by
  refine Run.of (pe_var hN hv hd hcd) ?_
  cases hr : r[i]? with
  | none => unfold rdS at hy; rw [hr] at hy; cases hy
  | some s =>
    unfold rdS at hy
    rw [hr] at hy
    cases s with
    | no => cases hy
    | sh d =>
      cases hy
      obtain ⟨v, h1, h2⟩ := S.slot hr
      exact ⟨v, h1, .sh d, r, G, F, Ex.refl _, S, h2, q⟩
    | own d =>
      cases hy
      obtain ⟨p, h1, h2⟩ := S.ownS hr
      exact ⟨.ref p, h1, .pk i, r, G, F, Ex.refl _, S, ⟨h1, d, hr⟩, q⟩
/-- a constant of the module -/
theorem we_globI {x : Str} {i : Int} {t : Tok} {Q : Res → Env2 → GD → Prop} (hg : Gl X x) (hm : X.mg x = some (.int i t)) (q : Q (.sh (.int i)) r G) (hd : (x == ("__debug__" : Str)) = false := by decide) : WE X (.Name x pos) r G Q := we_const (v := .int i) (d := .int i) (pe_glob hg hm ⟨t, rfl⟩ hd) (fun _ _ => rfl) q
theorem we_globS {x : Str} {i : Str} {t : Tok} {Q : Res → Env2 → GD → Prop} (hg : Gl X x) (hm : X.mg x = some (.str i t)) (q : Q (.sh (.str i)) r G) (hd : (x == ("__debug__" : Str)) = false := by decide) : WE X (.Name x pos) r G Q := we_const (v := .str i) (d := .str i) (pe_glob hg hm ⟨t, rfl⟩ hd) (fun _ _ => rfl) q
/-- a two-place operation on viewed data -/
def OpW (X : Cy) (f : Value → Value → Sem Value) (da db : D) (Q : Res → Prop) : Prop :=
  ∀ (F0 T F : Hp) (G : GD) (H : Hp) (r : Env2) (σ : L2.St) (va vb : V), Sta X.K F0 T F G H r σ → Vw X.K F H da va → Vw X.K F H db vb →
    ∃ rr : R2, OpR X f rr ∧ rr va vb H (fun v H' => ∃ x F', Ex F F' ∧ Sta X.K F0 T F' G H' r σ ∧ ResOk X.K T F' G H' r σ x v ∧ Q x)
def opU (X : Cy) (f : Value → Value → Sem Value) : R2 := fun x y H Q => ∃ rr : R2, OpR X f rr ∧ rr x y H Q
theorem opU_ok (f : Value → Value → Sem Value) : OpR X f (opU X f) := fun pins s σ H x y v u Q I rx ry ⟨rr, h1, h2⟩ => h1 pins s σ H x y v u Q I rx ry h2
/-- a held result, its view at a later state -/
theorem hold {K : PySem.W.Frag} {F0 T F : Hp} {G : GD} {H : Hp} {r : Env2} {σ : L2.St} {x : Res} {v : V} (S : Sta K F0 T F G H r σ) (h : ResOk K T F G H r σ x v) :
    ∃ F1, Ex F F1 ∧ Sta K F0 T F1 G H r σ ∧ ∀ (F2 : Hp) (G2 : GD) (H2 : Hp) (r2 : Env2) (d : D), Ex F1 F2 → Sta K F0 T F2 G2 H2 r2 σ → VwR r2 G2 x d → Vw K F2 H2 d v := by
  have red : ∀ (F2 : Hp) (G2 : GD) (H2 : Hp) (r2 : Env2) (d : D), Sta K F0 T F2 G2 H2 r2 σ → (vw r2 x = some d → Vw K F2 H2 d v) → VwR r2 G2 x d → Vw K F2 H2 d v := fun F2 G2 H2 r2 d S2 k e => by
    rcases e with e | ⟨a, rfl, hG⟩
    · exact k e
    · cases (show v = .ref a from h)
      exact .inr ⟨a, rfl, S2.bas.gh _ _ hG⟩
  cases x with
  | sh d => exact ⟨F, Ex.refl _, S, fun F2 G2 H2 r2 d' ex S2 e => red F2 G2 H2 r2 d' S2 (fun e => by cases e; exact .inl (Rep.mono ex _ _ h)) e⟩
  | fr d =>
    cases hD : isDic d with
    | true =>
      refine ⟨F, Ex.refl _, S, fun F2 G2 H2 r2 d' ex S2 e => red F2 G2 H2 r2 d' S2 (fun e => ?_) e⟩
      have e' : (if isDic d then none else some d) = some d' := e
      rw [hD] at e'; cases e'
    | false =>
      obtain ⟨F1, k1, k2, k3⟩ := S.frzRes hD h
      refine ⟨F1, k1, k2, fun F2 G2 H2 r2 d' ex S2 e => red F2 G2 H2 r2 d' S2 (fun e => ?_) e⟩
      have e' : (if isDic d then none else some d) = some d' := e
      rw [hD] at e'; cases e'
      exact .inl (Rep.mono ex _ _ k3)
  | pk i =>
    refine ⟨F, Ex.refl _, S, fun F2 G2 H2 r2 d' ex S2 e => red F2 G2 H2 r2 d' S2 (fun e => ?_) e⟩
    obtain ⟨h1, d, h2⟩ := h
    have e' : (match r2[i]? with | some (.own d) => some d | some (.sh d) => some d | _ => none) = some d' := e
    cases hr : r2[i]? with
    | none => rw [hr] at e'; cases e'
    | some s =>
      rw [hr] at e'
      cases s with
      | no => cases e'
      | sh d2 =>
        cases e'
        obtain ⟨v', q1, q2⟩ := S2.slot hr
        rw [h1] at q1; cases q1
        exact .inl q2
      | own d2 =>
        cases e'
        obtain ⟨p, q1, q2, _⟩ := S2.ownS hr
        rw [h1] at q1; cases q1
        exact .inr ⟨p, rfl, q2⟩
/-- two operands, then an operation -/
theorem two {f : Value → Value → Sem Value} {Q : Res → Env2 → GD → Prop} {F0 T F H : Hp} {σ : L2.St} (lk : Lk X F0 T) (S : Sta X.K F0 T F G H r σ)
    (h : WE X a r G fun x r1 G1 => WE X b r1 G1 fun y r2 G2 => ∃ da db, VwR r2 G2 x da ∧ VwR r2 G2 y db ∧ OpW X f da db fun z => Q z r2 G2) :
    tOp (opU X f) (Run X a) (Run X b) σ H (PostE X.K F0 T F σ Q) := by
  refine (h F0 T F H σ lk S).mono fun va H1 ⟨x, r1, G1, F1, e1, S1, k1, h1⟩ => ?_
  obtain ⟨F1', e1', S1', hv⟩ := hold S1 k1
  refine (h1 F0 T F1' H1 σ lk S1').mono fun vb H2 ⟨y, r2, G2, F2, e2, S2, k2, da, db, q1, q2, q3⟩ => ?_
  obtain ⟨rr, h3, h4⟩ := q3 F0 T F2 G2 H2 r2 σ va vb S2 (hv F2 G2 H2 r2 da e2 S2 q1) (S2.viewR k2 q2)
  have post : (fun v H' => ∃ z F', Ex F2 F' ∧ Sta X.K F0 T F' G2 H' r2 σ ∧ ResOk X.K T F' G2 H' r2 σ z v ∧ Q z r2 G2) = (fun v H' => ∃ z F', Ex F2 F' ∧ Sta X.K F0 T F' G2 H' r2 σ ∧ ResOk X.K T F' G2 H' r2 σ z v ∧ Q z r2 G2) := rfl
  refine ⟨fun u w H Q' => rr u w H (fun v H' => ∃ z F', Ex F2 F' ∧ Sta X.K F0 T F' G2 H' r2 σ ∧ ResOk X.K T F' G2 H' r2 σ z v ∧ Q z r2 G2) ∧ ∀ v H', (∃ z F', Ex F2 F' ∧ Sta X.K F0 T F' G2 H' r2 σ ∧ ResOk X.K T F' G2 H' r2 σ z v ∧ Q z r2 G2) → Q' v H', fun pins s σ H x y v u Q' I rx ry ⟨q, m⟩ => ?_, h4, fun v H' ⟨z, F', m1, m2, m3, m4⟩ => ⟨z, r2, G2, F', ((e1.trans e1').trans e2).trans m1, m2, m3, m4⟩⟩
  exact wpAny_mono (h3 pins s σ H x y v u _ I rx ry q) (fun _ _ ⟨v, H', I', rl, q⟩ => ⟨v, H', I', rl, m v H' q⟩) fun _ _ x => x
theorem we_bin {op : Operator} {Q : Res → Env2 → GD → Prop}
    (h : WE X a r G fun x r1 G1 => WE X b r1 G1 fun y r2 G2 => ∃ da db, VwR r2 G2 x da ∧ VwR r2 G2 y db ∧ OpW X (binaryOp op) da db fun z => Q z r2 G2) : WE X (.BinOp a op b pos) r G Q :=
  fun _ _ _ _ _ lk S => Run.of (pe_op (opU_ok _) peR peR) (two lk S h)
theorem we_cmp {op : CmpOp} {Q : Res → Env2 → GD → Prop} (hm : behindInMarks op b = false)
    (h : WE X a r G fun x r1 G1 => WE X b r1 G1 fun y r2 G2 => ∃ da db, VwR r2 G2 x da ∧ VwR r2 G2 y db ∧ OpW X (compareOp op) da db fun z => Q z r2 G2) : WE X (.Compare a [op] [b] pos) r G Q :=
  fun _ _ _ _ _ lk S => Run.of (pe_cmpR (opU_ok _) peR peR hm) (two lk S h)
/-- the result is a truth value -/
def isB (Q : Bool → Env2 → GD → Prop) : Res → Env2 → GD → Prop := fun x r G => ∃ c, x = .sh (.bl c) ∧ Q c r G
theorem postB {K : PySem.W.Frag} {F0 T F : Hp} {σ : L2.St} {Q : Bool → Env2 → GD → Prop} {v : V} {H' : Hp} (h : PostE K F0 T F σ (isB Q) v H') : ∃ c, v = .bl c ∧ PostT K F0 T F σ Q c H' := by
  obtain ⟨x, r', G', F', k1, k2, k3, c, rfl, k4⟩ := h
  exact ⟨c, k3, r', G', F', k1, k2, k4⟩
theorem wt_cmp {op : CmpOp} {Q : Bool → Env2 → GD → Prop} (hm : behindInMarks op b = false)
    (h : WE X a r G fun x r1 G1 => WE X b r1 G1 fun y r2 G2 => ∃ da db, VwR r2 G2 x da ∧ VwR r2 G2 y db ∧ OpW X (compareOp op) da db fun z => isB Q z r2 G2) : WT X (.Compare a [op] [b] pos) r G Q :=
  fun F0 T F H σ lk S => RunT.of (pt_cmpR (opU_ok _) peR peR hm) (by
    have q := two (Q := isB Q) lk S h
    refine Run.mono q fun va H1 q1 => Run.mono q1 fun vb H2 ⟨rr, h3, h4⟩ => ⟨fun u w H Q' => rr u w H (PostE X.K F0 T F σ (isB Q)) ∧ ∀ v H', PostE X.K F0 T F σ (isB Q) v H' → Q' v H', fun pins s σ H x y v u Q' I rx ry ⟨q, m⟩ => ?_, h4, fun v H' z => postB z⟩
    exact wpAny_mono (h3 pins s σ H x y v u _ I rx ry q) (fun _ _ ⟨v, H', I', rl, q⟩ => ⟨v, H', I', rl, m v H' q⟩) fun _ _ x => x)
/-- a value as a test -/
theorem wt_val {Q : Bool → Env2 → GD → Prop} (he : ∀ whole, isTrue e X.env whole = (do let v ← whole; standAt e.pos; holding [v] (truthy v))) (h : WE X e r G (isB Q)) : WT X e r G Q :=
  fun F0 T F H σ lk S => RunT.of (pt_val peR he) ((h F0 T F H σ lk S).mono fun v H' q => postB q)
theorem wt_not {Q : Bool → Env2 → GD → Prop} (h : WT X a r G fun c => Q (!c)) : WT X (.UnaryOp .Not a pos) r G Q :=
  fun F0 T F H σ lk S => RunT.of (pt_not ptR) (h F0 T F H σ lk S)
theorem wt_w {Q : Bool → Env2 → GD → Prop} (h : WW X e r G Q) : WT X e r G Q := fun F0 T F H σ lk S pins s I => h F0 T F H σ lk S _ pins s I
theorem ww_and1 {Q : Bool → Env2 → GD → Prop} (h : WT X a r G Q) : WW X (.BoolOp .And [a] pos) r G Q := fun F0 T F H σ lk S => RunW.of (pw_and1 ptR) (h F0 T F H σ lk S)
theorem ww_or1 {Q : Bool → Env2 → GD → Prop} (h : WT X a r G Q) : WW X (.BoolOp .Or [a] pos) r G Q := fun F0 T F H σ lk S => RunW.of (pw_or1 ptR) (h F0 T F H σ lk S)
theorem ww_and {Q : Bool → Env2 → GD → Prop} (h : WT X a r G fun c r1 G1 => (c = true → WW X (.BoolOp .And (b :: es) pos) r1 G1 Q) ∧ (c = false → Q false r1 G1)) : WW X (.BoolOp .And (a :: b :: es) pos) r G Q := fun F0 T F H σ lk S =>
  RunW.of (pw_and ptR pwR) ((h F0 T F H σ lk S).mono fun c H1 ⟨r1, G1, F1, e1, S1, q1, q2⟩ => by
    cases c with
    | true => rw [if_pos rfl]; exact fun w pins s I => wpAny_mono (q1 rfl F0 T F1 H1 σ lk S1 w pins s I) (fun _ _ ⟨H', I', r', G', F', k1, k2, k3⟩ => ⟨H', I', r', G', F', e1.trans k1, k2, k3⟩) fun _ _ x => x
    | false => rw [if_neg Bool.false_ne_true]; exact ⟨r1, G1, F1, e1, S1, q2 rfl⟩)
theorem ww_or {Q : Bool → Env2 → GD → Prop} (h : WT X a r G fun c r1 G1 => (c = false → WW X (.BoolOp .Or (b :: es) pos) r1 G1 Q) ∧ (c = true → Q true r1 G1)) : WW X (.BoolOp .Or (a :: b :: es) pos) r G Q := fun F0 T F H σ lk S =>
  RunW.of (pw_or ptR pwR) ((h F0 T F H σ lk S).mono fun c H1 ⟨r1, G1, F1, e1, S1, q1, q2⟩ => by
    cases c with
    | true => rw [if_pos rfl]; exact ⟨r1, G1, F1, e1, S1, q2 rfl⟩
    | false => rw [if_neg Bool.false_ne_true]; exact fun w pins s I => wpAny_mono (q1 rfl F0 T F1 H1 σ lk S1 w pins s I) (fun _ _ ⟨H', I', r', G', F', k1, k2, k3⟩ => ⟨H', I', r', G', F', e1.trans k1, k2, k3⟩) fun _ _ x => x)
/-- and, or, not as values (truth values) -/
theorem PostE.ext {K : PySem.W.Frag} {F0 T F F1 : Hp} {σ : L2.St} {Q : Res → Env2 → GD → Prop} (e : Ex F F1) {v : V} {H : Hp} (h : PostE K F0 T F1 σ Q v H) : PostE K F0 T F σ Q v H := by
  obtain ⟨x, r', G', F', k1, k2⟩ := h
  exact ⟨x, r', G', F', e.trans k1, k2⟩
theorem we_one {op} {Q : Res → Env2 → GD → Prop} (h : WE X a r G Q) : WE X (.BoolOp op [a] pos) r G Q := fun F0 T F H σ lk S => Run.of (pe_one peR) (h F0 T F H σ lk S)
theorem we_and {Q : Res → Env2 → GD → Prop} (h : WE X a r G (isB fun c r1 G1 => (c = true → WE X (.BoolOp .And (b :: es) pos) r1 G1 Q) ∧ (c = false → Q (.sh (.bl false)) r1 G1))) : WE X (.BoolOp .And (a :: b :: es) pos) r G Q := fun F0 T F H σ lk S =>
  Run.of (pe_and peR peR) ((h F0 T F H σ lk S).mono fun v H1 q => by
    obtain ⟨c, rfl, r1, G1, F1, e1, S1, q1, q2⟩ := postB q
    refine ⟨c, rfl, ?_⟩
    cases c with
    | true => rw [if_pos rfl]; exact (q1 rfl F0 T F1 H1 σ lk S1).mono fun _ _ z => z.ext e1
    | false => rw [if_neg Bool.false_ne_true]; exact ⟨.sh (.bl false), r1, G1, F1, e1, S1, rfl, q2 rfl⟩)
theorem we_not {Q : Res → Env2 → GD → Prop} (h : WE X a r G (isB fun c r1 G1 => Q (.sh (.bl (!c))) r1 G1)) : WE X (.UnaryOp .Not a pos) r G Q := fun F0 T F H σ lk S =>
  Run.of (pe_not peR) ((h F0 T F H σ lk S).mono fun v H1 q => by
    obtain ⟨c, rfl, r1, G1, F1, e1, S1, q1⟩ := postB q
    exact ⟨c, rfl, .sh (.bl (!c)), r1, G1, F1, e1, S1, rfl, q1⟩)
theorem we_ifExp {Q : Res → Env2 → GD → Prop} (h : WT X c r G fun d r1 G1 => (d = true → WE X a r1 G1 Q) ∧ (d = false → WE X b r1 G1 Q)) : WE X (.IfExp c a b pos) r G Q := fun F0 T F H σ lk S =>
  Run.of (pe_ifExp ptR peR peR) ((h F0 T F H σ lk S).mono fun d H1 ⟨r1, G1, F1, e1, S1, q1, q2⟩ => by
    cases d with
    | true => rw [if_pos rfl]; exact (q1 rfl F0 T F1 H1 σ lk S1).mono fun _ _ z => z.ext e1
    | false => rw [if_neg Bool.false_ne_true]; exact (q2 rfl F0 T F1 H1 σ lk S1).mono fun _ _ z => z.ext e1)
theorem wa_nil {Q : List D → Env2 → GD → Prop} (q : Q [] r G) : WA X [] r G Q := fun F0 T F H σ lk S => RunA.of pa_nil ⟨[], r, G, F, Ex.refl _, S, rfl, q⟩
theorem PostA.ext {K : PySem.W.Frag} {F0 T F F1 : Hp} {σ : L2.St} {Q : List D → Env2 → GD → Prop} (e : Ex F F1) {v : List V} {H : Hp} (h : PostA K F0 T F1 σ Q v H) : PostA K F0 T F σ Q v H := by
  obtain ⟨x, r', G', F', k1, k2⟩ := h
  exact ⟨x, r', G', F', e.trans k1, k2⟩
theorem wa_cons {Q : List D → Env2 → GD → Prop} (h : WE X e r G fun x r1 G1 => ∃ d r2, fz r1 x = some (d, r2) ∧ WA X es r2 G1 fun ds r3 G3 => Q (d :: ds) r3 G3)
    (hs : starEach (e :: es) X.env = (false, eval e X.env) :: starEach es X.env := by rfl) : WA X (e :: es) r G Q := fun F0 T F H σ lk S =>
  RunA.of (pa_cons peR paR hs) ((h F0 T F H σ lk S).mono fun v H1 ⟨x, r1, G1, F1, e1, S1, k1, d, r2, q1, q2⟩ => by
    obtain ⟨F2, e2, S2, rp⟩ := S1.fz k1 q1
    refine (q2 F0 T F2 H1 σ lk S2).mono fun vs H3 ⟨ds, r3, G3, F3, e3, S3, k3, q3⟩ => ?_
    exact ⟨d :: ds, r3, G3, F3, (e1.trans e2).trans e3, S3, ⟨v, vs, rfl, Rep.mono e3 _ _ rp, k3⟩, q3⟩)
/-- how many items a display may have -/
abbrev LIM : Nat := 16777216
theorem lim_ok {n : Nat} (h : n ≤ LIM) : n ≤ sizeLine := by rw [sizeLine_eq]; exact h
theorem lim_of {n : Nat} (h : n ≤ sizeLine) : n ≤ LIM := by rw [sizeLine_eq] at h; exact h
theorem lim_lt {n : Nat} (h : n < LIM) : n < sizeLine := by rw [sizeLine_eq]; exact h
/-- what lies in a heap is not too long -/
def BL (K : PySem.W.Frag) (H : Hp) : Prop := (∀ a xs, SqL K H a xs → xs.length ≤ LIM) ∧ (∀ a xs, SqT K H a xs → xs.length ≤ LIM) ∧ ∀ a kvs, Rd H a (.dK kvs) → kvs.length ≤ LIM
theorem bl_of {X : Cx} {pins : List (Addr × Obj)} {σ : L2.St} {H : Hp} {s : Shared} (I : Inv X pins σ H s) : BL X.K H := by
  refine ⟨fun a xs h => ?_, fun a xs h => ?_, fun a kvs h => ?_⟩
  · obtain ⟨_, _, _, z⟩ := I.list h
    exact lim_of z
  · obtain ⟨_, _, _, z⟩ := I.tuple h
    exact lim_of z
  · rcases h with h | ⟨o, h⟩
    · exact lim_of (I.hok _ _ h).1
    · exact lim_of (I.hok _ _ h).2.1
theorem Run.bl {X : Cx} {e : Expr} {σ : L2.St} {H : Hp} {Q : VK} (h : Run X e σ H Q) : Run X e σ H fun v H' => BL X.K H' ∧ Q v H' := fun pins s I =>
  wpAny_mono (h pins s I) (fun _ _ ⟨v, H', I', r, q⟩ => ⟨v, H', I', r, bl_of I', q⟩) fun _ _ x => x
theorem we_tup {k} {Q : Res → Env2 → GD → Prop} (h : WA X es r G fun ds r1 G1 => ds.length ≤ LIM ∧ Q (.sh (.tup ds)) r1 G1) : WE X (.Tuple es k pos) r G Q := fun F0 T F H σ lk S =>
  Run.of (pe_tup paR) ((h F0 T F H σ lk S).mono fun vs H1 ⟨ds, r1, G1, F1, e1, S1, k1, hl, q⟩ => ⟨by rw [k1.length]; exact lim_ok hl, fun p hp => by
    have ef : Ex F1 (upd F1 p (.tup vs)) := Ex.new (S1.bas.freshF hp).1
    exact ⟨.sh (.tup ds), r1, G1, upd F1 p (.tup vs), e1.trans ef, S1.newF hp, ⟨p, vs, rfl, .inl (.inl upd_same), RepL.mono ef _ _ k1⟩, q⟩⟩)
theorem we_lst {Q : Res → Env2 → GD → Prop} (h : WA X es r G fun ds r1 G1 => ds.length ≤ LIM ∧ Q (.fr (.lst ds)) r1 G1) : WE X (.List es pos) r G Q := fun F0 T F H σ lk S =>
  Run.of (pe_lst paR) ((h F0 T F H σ lk S).mono fun vs H1 ⟨ds, r1, G1, F1, e1, S1, k1, hl, q⟩ => ⟨by rw [k1.length]; exact lim_ok hl, fun p hp => by
    obtain ⟨h1, h2, h3⟩ := S1.bas.freshF hp
    exact ⟨.fr (.lst ds), r1, G1, F1, e1, S1.newH hp, ⟨p, rfl, ⟨vs, upd_same, k1⟩, h1, h2, h3, S1.freshR hp⟩, q⟩⟩)
end
section
variable {X : Cy} {e a b c : Expr} {es : List Expr} {st : Stmt} {sts rest : List Stmt} {r : Env2} {G : GD} {pos : Pos} {Q : Res → Prop}
theorem opw_flat {f : Value → Value → Sem Value} {da db d : D} {v : V} (hd : ∀ K F, Rep K F d v) (h : ∀ F H va vb, Ex F H → Vw X.K F H da va → Vw X.K F H db vb → ∃ rr, OpR X f rr ∧ ∀ P : VK, P v H → rr va vb H P) (q : Q (.sh d)) : OpW X f da db Q :=
  fun F0 T F G H r σ va vb S h1 h2 => by
    obtain ⟨rr, k1, k2⟩ := h F H va vb S.bas.fh h1 h2
    exact ⟨rr, k1, k2 _ ⟨.sh d, F, Ex.refl _, S, hd _ _, q⟩⟩
theorem opw_add {i j : Int} (q : Q (.sh (.int (i + j)))) : OpW X (binaryOp .Add) (.int i) (.int j) Q :=
  opw_flat (d := .int (i + j)) (v := .int (i + j)) (fun _ _ => rfl) (fun F H va vb _ h1 h2 => ⟨_, op_add, fun P p => ⟨i, j, h1.int, h2.int, p⟩⟩) q
theorem opw_sub {i j : Int} (q : Q (.sh (.int (i - j)))) : OpW X (binaryOp .Sub) (.int i) (.int j) Q :=
  opw_flat (d := .int (i - j)) (v := .int (i - j)) (fun _ _ => rfl) (fun F H va vb _ h1 h2 => ⟨_, op_sub, fun P p => ⟨i, j, h1.int, h2.int, p⟩⟩) q
theorem opw_mul {i j : Int} (hc : (-(2 ^ 64) < i ∧ i < 2 ^ 64) ∨ (-(2 ^ 64) < j ∧ j < 2 ^ 64)) (q : Q (.sh (.int (i * j)))) : OpW X (binaryOp .Mult) (.int i) (.int j) Q :=
  opw_flat (d := .int (i * j)) (v := .int (i * j)) (fun _ _ => rfl) (fun F H va vb _ h1 h2 => ⟨_, op_mul, fun P p => ⟨i, j, h1.int, h2.int, hc, p⟩⟩) q
theorem opw_fdiv {i j : Int} (hc : 0 < j ∧ j < 1073741824) (q : Q (.sh (.int (i / j)))) : OpW X (binaryOp .FloorDiv) (.int i) (.int j) Q :=
  opw_flat (d := .int (i / j)) (v := .int (i / j)) (fun _ _ => rfl) (fun F H va vb _ h1 h2 => ⟨_, op_fdiv, fun P p => ⟨i, j, h1.int, h2.int, hc, p⟩⟩) q
theorem opw_mod {i j : Int} (hc : 0 < j) (q : Q (.sh (.int (i % j)))) : OpW X (binaryOp .Mod) (.int i) (.int j) Q :=
  opw_flat (d := .int (i % j)) (v := .int (i % j)) (fun _ _ => rfl) (fun F H va vb _ h1 h2 => ⟨_, op_mod, fun P p => ⟨i, j, h1.int, h2.int, hc, p⟩⟩) q
theorem opw_pow {i j : Int} (hc : 0 ≤ j ∧ j ≤ 1000000 ∧ i.natAbs < 2 ^ 64) (q : Q (.sh (.int (i ^ j.toNat)))) : OpW X (binaryOp .Pow) (.int i) (.int j) Q :=
  opw_flat (d := .int (i ^ j.toNat)) (v := .int (i ^ j.toNat)) (fun _ _ => rfl) (fun F H va vb _ h1 h2 => ⟨_, op_pow, fun P p => ⟨i, j, h1.int, h2.int, hc, p⟩⟩) q
theorem opw_lt {i j : Int} (q : Q (.sh (.bl (decide (i < j))))) : OpW X (compareOp .Lt) (.int i) (.int j) Q :=
  opw_flat (d := .bl (decide (i < j))) (v := .bl (decide (i < j))) (fun _ _ => rfl) (fun F H va vb _ h1 h2 => ⟨_, op_lt, fun P p => ⟨i, j, h1.int, h2.int, p⟩⟩) q
theorem opw_le {i j : Int} (q : Q (.sh (.bl (decide (i ≤ j))))) : OpW X (compareOp .LtE) (.int i) (.int j) Q :=
  opw_flat (d := .bl (decide (i ≤ j))) (v := .bl (decide (i ≤ j))) (fun _ _ => rfl) (fun F H va vb _ h1 h2 => ⟨_, op_le, fun P p => ⟨i, j, h1.int, h2.int, p⟩⟩) q
theorem opw_gt {i j : Int} (q : Q (.sh (.bl (decide (j < i))))) : OpW X (compareOp .Gt) (.int i) (.int j) Q :=
  opw_flat (d := .bl (decide (j < i))) (v := .bl (decide (j < i))) (fun _ _ => rfl) (fun F H va vb _ h1 h2 => ⟨_, op_gt, fun P p => ⟨i, j, h1.int, h2.int, p⟩⟩) q
theorem opw_ge {i j : Int} (q : Q (.sh (.bl (decide (j ≤ i))))) : OpW X (compareOp .GtE) (.int i) (.int j) Q :=
  opw_flat (d := .bl (decide (j ≤ i))) (v := .bl (decide (j ≤ i))) (fun _ _ => rfl) (fun F H va vb _ h1 h2 => ⟨_, op_ge, fun P p => ⟨i, j, h1.int, h2.int, p⟩⟩) q
theorem vint_eq (i j : Int) : decide (V.int i = V.int j) = decide (i = j) := by
  by_cases h : i = j
  · subst h; simp
  · simp [h]
theorem vstr_eq (i j : Str) : decide (V.str i = V.str j) = decide (i = j) := by
  by_cases h : i = j
  · subst h; simp
  · simp [h]
theorem vbl_eq (i j : Bool) : decide (V.bl i = V.bl j) = (i == j) := by cases i <;> cases j <;> decide
theorem opw_eqI {i j : Int} (q : Q (.sh (.bl (decide (i = j))))) : OpW X (compareOp .Eq) (.int i) (.int j) Q :=
  opw_flat (d := .bl (decide (i = j))) (v := .bl (decide (i = j))) (fun _ _ => rfl) (fun F H va vb _ h1 h2 => ⟨_, op_eq, fun P p => by cases h1.int; cases h2.int; exact ⟨rfl, by rw [vint_eq]; exact p⟩⟩) q
theorem opw_neI {i j : Int} (q : Q (.sh (.bl (!decide (i = j))))) : OpW X (compareOp .NotEq) (.int i) (.int j) Q :=
  opw_flat (d := .bl (!decide (i = j))) (v := .bl (!decide (i = j))) (fun _ _ => rfl) (fun F H va vb _ h1 h2 => ⟨_, op_ne, fun P p => by cases h1.int; cases h2.int; exact ⟨rfl, by rw [vint_eq]; exact p⟩⟩) q
theorem opw_eqS {i j : Str} (q : Q (.sh (.bl (decide (i = j))))) : OpW X (compareOp .Eq) (.str i) (.str j) Q :=
  opw_flat (d := .bl (decide (i = j))) (v := .bl (decide (i = j))) (fun _ _ => rfl) (fun F H va vb _ h1 h2 => ⟨_, op_eq, fun P p => by cases h1.str; cases h2.str; exact ⟨rfl, by rw [vstr_eq]; exact p⟩⟩) q
theorem opw_eqB {i j : Bool} (q : Q (.sh (.bl (i == j)))) : OpW X (compareOp .Eq) (.bl i) (.bl j) Q :=
  opw_flat (d := .bl (i == j)) (v := .bl (i == j)) (fun _ _ => rfl) (fun F H va vb _ h1 h2 => ⟨_, op_eq, fun P p => by cases h1.bl; cases h2.bl; exact ⟨rfl, by rw [vbl_eq]; exact p⟩⟩) q
theorem opw_neB {i j : Bool} (q : Q (.sh (.bl (!(i == j))))) : OpW X (compareOp .NotEq) (.bl i) (.bl j) Q :=
  opw_flat (d := .bl (!(i == j))) (v := .bl (!(i == j))) (fun _ _ => rfl) (fun F H va vb _ h1 h2 => ⟨_, op_ne, fun P p => by cases h1.bl; cases h2.bl; exact ⟨rfl, by rw [vbl_eq]; exact p⟩⟩) q
/-- is None -/
def isNon : D → Bool
  | .non => true
  | _ => false
theorem vw_non {K : PySem.W.Frag} {F H : Hp} {d : D} {v : V} (h : Vw K F H d v) : decide (v = .non) = isNon d := by
  rcases h with h | ⟨p, rfl, h⟩
  · cases d with
    | non => cases (show v = .non from h); rfl
    | bl b => cases (show v = .bl b from h); rfl
    | int b => cases (show v = .int b from h); rfl
    | str b => cases (show v = .str b from h); rfl
    | tup b => obtain ⟨a, vs, rfl, _⟩ := h; rfl
    | lst b => obtain ⟨a, vs, rfl, _⟩ := h; rfl
    | dic ks b => obtain ⟨a, o, vs, rfl, _⟩ := h; rfl
    | ins C b => obtain ⟨a, dx, vs, rfl, _⟩ := h; rfl
    | adr b => cases (show v = .ref b from h); rfl
    | obj _ _ _ => exact h.elim
    | slo _ _ _ _ => exact h.elim
    | xdo _ _ => exact h.elim
    | tab _ => exact h.elim
    | hob _ _ => obtain ⟨rfl, _⟩ := h; rfl
    | kd _ _ _ => obtain ⟨a, ob, es, rfl, _⟩ := h; rfl
    | scr ns => obtain ⟨a, rfl, _⟩ := h; rfl
  · cases d with
    | lst b => rfl
    | dic ks b => rfl
    | obj _ _ _ => rfl
    | slo _ _ _ _ => rfl
    | xdo _ _ => rfl
    | tab _ => rfl
    | kd _ _ _ => rfl
    | _ => exact h.elim
theorem opw_isN {d : D} (q : Q (.sh (.bl (isNon d)))) : OpW X (compareOp .Is) d .non Q :=
  opw_flat (d := .bl (isNon d)) (v := .bl (isNon d)) (fun _ _ => rfl) (fun F H va vb _ h1 h2 => ⟨_, op_isN, fun P p => ⟨h2.non, by rw [vw_non h1]; exact p⟩⟩) q
/-- lists and tuples joined -/
theorem lst_of {X : Cx} {pins : List (Addr × Obj)} {σ : L2.St} {H : Hp} {s : Shared} {a : Addr} {xs : List V} (I : Inv X pins σ H s) (h : Rd H a (.lst xs)) : xs.length ≤ sizeLine ∧ ∃ (its : List Value) (n : Nat), Vals xs its ∧ s.heap.get? a = some { cls := .type "list", data := .seq its.toArray n } := by
  rcases h with h | ⟨o, h⟩
  · exact I.hok _ _ h
  · exact (I.hok _ _ h).2
def rCatR : R2 := fun x y H Q => ∃ l b xs zs, x = .ref l ∧ y = .ref b ∧ Rd H l (.lst xs) ∧ Rd H b (.lst zs) ∧ xs.length + zs.length ≤ sizeLine ∧ ∀ p, H p = none → Q (.ref p) (upd H p (.lst (xs ++ zs)))
theorem op_catR {X : Cx} : OpR X (binaryOp .Add) rCatR := by
  intro pins s σ H x y v u Q I rx ry h
  obtain ⟨l, b, xs, zs, rfl, rfl, hH, hB, hz, q⟩ := h
  cases rx
  cases ry
  obtain ⟨z, its, n, r, e⟩ := lst_of I hH
  obtain ⟨z2, its2, n2, r2, e2⟩ := lst_of I hB
  have hl := r.length
  have hl2 := r2.length
  refine PySem.P.add_list e e2 ?_ (by rw [List.size_toArray, List.size_toArray]; omega)
  have ea : its.toArray ++ its2.toArray = (its ++ its2).toArray := by simp
  rw [ea]
  exact ⟨.ref _, _, I.lnew (t' := s.toks) (r.append r2) (by rw [List.length_append]; omega), rfl, q _ I.fresh⟩
theorem opw_cat {xs ys : List D} (hl : xs.length + ys.length ≤ LIM) (q : Q (.fr (.lst (xs ++ ys)))) : OpW X (binaryOp .Add) (.lst xs) (.lst ys) Q :=
  fun F0 T F G H r σ va vb S h1 h2 => by
    obtain ⟨p1, vs, rfl, k1, k2⟩ := h1.lst S.bas.fh
    obtain ⟨p2, us, rfl, k3, k4⟩ := h2.lst S.bas.fh
    exact ⟨_, op_catR, p1, p2, vs, us, rfl, rfl, k1, k3, by rw [k2.length, k4.length]; exact lim_ok hl, fun p hp => by
      obtain ⟨f1, f2, f3⟩ := S.bas.freshF hp
      exact ⟨.fr (.lst (xs ++ ys)), F, Ex.refl _, S.newH hp, ⟨p, rfl, ⟨vs ++ us, upd_same, k2.append k4⟩, f1, f2, f3, S.freshR hp⟩, q⟩⟩
theorem opw_catT {xs ys : List D} (hl : xs.length + ys.length ≤ LIM) (q : Q (.sh (.tup (xs ++ ys)))) : OpW X (binaryOp .Add) (.tup xs) (.tup ys) Q :=
  fun F0 T F G H r σ va vb S h1 h2 => by
    obtain ⟨p1, vs, rfl, k1, k2⟩ := h1.tup S.bas.fh
    obtain ⟨p2, us, rfl, k3, k4⟩ := h2.tup S.bas.fh
    have r1 : Rep X.K F (.tup xs) (.ref p1) := by
      rcases h1 with h | ⟨_, _, h⟩
      · exact h
      · exact h.elim
    have r2 : Rep X.K F (.tup ys) (.ref p2) := by
      rcases h2 with h | ⟨_, _, h⟩
      · exact h
      · exact h.elim
    refine ⟨_, op_catA, p1, p2, vs, us, rfl, rfl, k1, k3, by rw [k2.length, k4.length]; exact lim_ok hl, fun e => ?_, fun _ e => ?_, fun _ _ p hp => ?_⟩
    · have e1 : xs = [] := by have := k2.length; rw [e] at this; exact List.length_eq_zero_iff.mp this.symm
      subst e1
      exact ⟨.sh (.tup ys), F, Ex.refl _, S, r2, q⟩
    · have e1 : ys = [] := by have := k4.length; rw [e] at this; exact List.length_eq_zero_iff.mp this.symm
      subst e1
      refine ⟨.sh (.tup (xs ++ [])), F, Ex.refl _, S, ?_, q⟩
      rw [List.append_nil]
      exact r1
    · have ef : Ex F (upd F p (.tup (vs ++ us))) := Ex.new (S.bas.freshF hp).1
      exact ⟨.sh (.tup (xs ++ ys)), upd F p (.tup (vs ++ us)), ef, S.newF hp, ⟨p, vs ++ us, rfl, .inl (.inl upd_same), RepL.mono ef _ _ (k2.append k4)⟩, q⟩
mutual
def toP : D → PyData
  | .non => .none
  | .bl b => .bool b
  | .int i => .int i
  | .str x => .str x
  | .tup ds => .tuple (toPs ds)
  | .lst ds => .list (toPs ds)
  | _ => .none
def toPs : List D → List PyData
  | [] => []
  | d :: ds => toP d :: toPs ds
end
def okD : Nat → D → Prop
  | _, .non => True
  | _, .bl _ => True
  | _, .int _ => True
  | _, .str x => PyData.strOk x = true
  | n + 1, .tup ds => ∀ d ∈ ds, okD n d
  | n + 1, .lst ds => ∀ d ∈ ds, okD n d
  | _, _ => False
theorem okD.dp {K : PySem.W.Frag} {F H : Hp} (e : Ex F H) : ∀ (n : Nat) (d : D) (v : V), okD n d → Vw K F H d v → Dp K H v (toP d) := by
  have all : ∀ n, (∀ (d : D) (v : V), okD n d → Vw K F H d v → Dp K H v (toP d)) → ∀ (ds : List D) (vs : List V), (∀ d ∈ ds, okD n d) → RepL K F ds vs → DpAll K H vs (toPs ds) := by
    intro n ih ds
    induction ds with
    | nil => intro vs _ h; cases (show vs = [] from h); exact .nil
    | cons d ds ih2 =>
      intro vs hk h
      obtain ⟨v, r, rfl, h1, h2⟩ := h
      exact .cons (ih d v (hk d List.mem_cons_self) (.inl h1)) (ih2 r (fun x hx => hk x (List.mem_cons_of_mem _ hx)) h2)
  intro n
  induction n with
  | zero =>
    intro d v hk h
    cases d with
    | non => cases h.non; exact .non
    | bl b => cases h.bl; exact .bl b
    | int b => cases h.int; exact .int b
    | str b => cases h.str; exact .str b
    | _ => exact hk.elim
  | succ n ih =>
    intro d v hk h
    cases d with
    | non => cases h.non; exact .non
    | bl b => cases h.bl; exact .bl b
    | int b => cases h.int; exact .int b
    | str b => cases h.str; exact .str b
    | tup ds =>
      obtain ⟨a, vs, rfl, h1, h2⟩ := h.tup e
      exact .tup h1 (all n ih ds vs hk h2)
    | lst ds =>
      obtain ⟨a, vs, rfl, h1, h2⟩ := h.lst e
      exact .lst (.inl h1) (all n ih ds vs hk h2)
    | _ => exact hk.elim
theorem okD.dep : ∀ (n : Nat) (d : D), okD n d → (toP d).depth ≤ n := by
  have all : ∀ n, (∀ d, okD n d → (toP d).depth ≤ n) → ∀ ds : List D, (∀ d ∈ ds, okD n d) → PyData.depthAll (toPs ds) ≤ n := by
    intro n ih ds
    induction ds with
    | nil => intro _; exact Nat.zero_le _
    | cons d ds ih2 =>
      intro hk
      show max (PyData.depth (toP d)) (PyData.depthAll (toPs ds)) ≤ n
      exact Nat.max_le.mpr ⟨ih d (hk d List.mem_cons_self), ih2 fun x hx => hk x (List.mem_cons_of_mem _ hx)⟩
  intro n
  induction n with
  | zero =>
    intro d hk
    cases d with
    | str b => exact Nat.le_refl _
    | non => exact Nat.le_refl _
    | bl b => exact Nat.le_refl _
    | int b => exact Nat.le_refl _
    | _ => exact hk.elim
  | succ n ih =>
    intro d hk
    cases d with
    | str b => exact Nat.zero_le _
    | non => exact Nat.zero_le _
    | bl b => exact Nat.zero_le _
    | int b => exact Nat.zero_le _
    | tup ds => exact Nat.succ_le_succ (all n ih ds hk)
    | lst ds => exact Nat.succ_le_succ (all n ih ds hk)
    | _ => exact hk.elim
theorem okD.lay : ∀ (n : Nat) (d : D), okD n d → (toP d).canLay0 = true := by
  have all : ∀ n, (∀ d, okD n d → (toP d).canLay0 = true) → ∀ ds : List D, (∀ d ∈ ds, okD n d) → PyData.canLayAll0 (toPs ds) = true := by
    intro n ih ds
    induction ds with
    | nil => intro _; rfl
    | cons d ds ih2 =>
      intro hk
      show (PyData.canLay0 (toP d) && PyData.canLayAll0 (toPs ds)) = true
      rw [ih d (hk d List.mem_cons_self), ih2 fun x hx => hk x (List.mem_cons_of_mem _ hx)]; rfl
  intro n
  induction n with
  | zero =>
    intro d hk
    cases d with
    | str b => exact hk
    | non => rfl
    | bl b => rfl
    | int b => rfl
    | _ => exact hk.elim
  | succ n ih =>
    intro d hk
    cases d with
    | str b => exact hk
    | non => rfl
    | bl b => rfl
    | int b => rfl
    | tup ds => exact all n ih ds hk
    | lst ds => exact all n ih ds hk
    | _ => exact hk.elim
theorem okD.shaped {n : Nat} {d : D} (h : okD n d) (hn : n ≤ 64) : SeqAt.shaped (toP d) = true := by
  unfold SeqAt.shaped
  rw [okD.lay n d h, decide_eq_true (Nat.le_trans (okD.dep n d h) hn)]; rfl
def eqD (a b : D) : Bool := PyData.eqv (toP a) (toP b)
theorem opw_eqD {da db : D} {n : Nat} (hu : X.A.units + 64 < cLine) (h1 : okD n da) (h2 : okD n db) (hn : n ≤ 64) (q : Q (.sh (.bl (eqD da db)))) : OpW X (compareOp .Eq) da db Q :=
  opw_flat (d := .bl (eqD da db)) (v := .bl (eqD da db)) (fun _ _ => rfl) (fun F H va vb e k1 k2 => ⟨_, op_eqD hu, fun P p => ⟨_, _, okD.dp e n _ _ h1 k1, okD.dp e n _ _ h2 k2, h1.shaped hn, h2.shaped hn, p⟩⟩) q
theorem opw_neD {da db : D} {n : Nat} (hu : X.A.units + 64 < cLine) (h1 : okD n da) (h2 : okD n db) (hn : n ≤ 64) (q : Q (.sh (.bl (!eqD da db)))) : OpW X (compareOp .NotEq) da db Q :=
  opw_flat (d := .bl (!eqD da db)) (v := .bl (!eqD da db)) (fun _ _ => rfl) (fun F H va vb e k1 k2 => ⟨_, op_neD hu, fun P p => ⟨_, _, okD.dp e n _ _ h1 k1, okD.dp e n _ _ h2 k2, h1.shaped hn, h2.shaped hn, p⟩⟩) q
def IxW (X : Cy) (da db : D) (Q : Res → Prop) : Prop :=
  ∀ (F0 T F : Hp) (G : GD) (H : Hp) (r : Env2) (σ : L2.St) (va vb : V), Sta X.K F0 T F G H r σ → Vw X.K F H da va → Vw X.K F H db vb →
    ∃ rr : R2, IxR X rr ∧ rr va vb H (fun v H' => ∃ x F', Ex F F' ∧ Sta X.K F0 T F' G H' r σ ∧ ResOk X.K T F' G H' r σ x v ∧ Q x)
def ixU (X : Cy) : R2 := fun x y H Q => ∃ rr : R2, IxR X rr ∧ rr x y H Q
theorem ixU_ok : IxR X (ixU X) := fun value slice pins s σ H x y v u Q I rx ry ⟨rr, h1, h2⟩ hs => h1 value slice pins s σ H x y v u Q I rx ry h2 hs
theorem we_ix {Q : Res → Env2 → GD → Prop} (hp : PlainIx b)
    (h : WE X a r G fun x r1 G1 => WE X b r1 G1 fun y r2 G2 => ∃ da db, VwR r2 G2 x da ∧ VwR r2 G2 y db ∧ IxW X da db fun z => Q z r2 G2) : WE X (.Subscript a b pos) r G Q :=
  fun F0 T F H σ lk S => Run.of (pe_ix ixU_ok peR peR hp) (by
    refine (h F0 T F H σ lk S).mono fun va H1 ⟨x, r1, G1, F1, e1, S1, k1, h1⟩ => ?_
    obtain ⟨F1', e1', S1', hv⟩ := hold S1 k1
    refine (h1 F0 T F1' H1 σ lk S1').mono fun vb H2 ⟨y, r2, G2, F2, e2, S2, k2, da, db, q1, q2, q3⟩ => ?_
    obtain ⟨rr, h3, h4⟩ := q3 F0 T F2 G2 H2 r2 σ va vb S2 (hv F2 G2 H2 r2 da e2 S2 q1) (S2.viewR k2 q2)
    refine ⟨fun u w H Q' => rr u w H (fun v H' => ∃ z F', Ex F2 F' ∧ Sta X.K F0 T F' G2 H' r2 σ ∧ ResOk X.K T F' G2 H' r2 σ z v ∧ Q z r2 G2) ∧ ∀ v H', (∃ z F', Ex F2 F' ∧ Sta X.K F0 T F' G2 H' r2 σ ∧ ResOk X.K T F' G2 H' r2 σ z v ∧ Q z r2 G2) → Q' v H', fun value slice pins s σ H x y v u Q' I rx ry ⟨q, m⟩ hs => ?_, h4, fun v H' ⟨z, F', m1, m2, m3, m4⟩ => ⟨z, r2, G2, F', ((e1.trans e1').trans e2).trans m1, m2, m3, m4⟩⟩
    exact wpAny_mono (h3 value slice pins s σ H x y v u _ I rx ry q hs) (fun _ _ ⟨v, H', I', rl, q⟩ => ⟨v, H', I', rl, m v H' q⟩) fun _ _ x => x)
/-- an item by an index of any sign -/
def atD (xs : List D) (i : Int) : Option D := (ixN xs.length i).bind fun j => xs[j]?
theorem atD_get {K : PySem.W.Frag} {F : Hp} {xs : List D} {vs : List V} {i : Int} {d : D} (h : RepL K F xs vs) (e : atD xs i = some d) : ∃ v, atI vs i = some v ∧ Rep K F d v := by
  unfold atD at e
  unfold atI
  rw [h.length]
  cases hj : ixN xs.length i with
  | none => rw [hj] at e; cases e
  | some j =>
    rw [hj] at e
    exact h.get e
theorem ixw_lst {xs : List D} {i : Int} {d : D} (e : atD xs i = some d) (q : Q (.sh d)) : IxW X (.lst xs) (.int i) Q := fun F0 T F G H r σ va vb S h1 h2 => by
  obtain ⟨p, vs, rfl, k1, k2⟩ := h1.lst S.bas.fh
  cases h2.int
  obtain ⟨v, k3, k4⟩ := atD_get k2 e
  exact ⟨_, ix_list, p, vs, i, v, rfl, rfl, .inl k1, k3, .sh d, F, Ex.refl _, S, k4, q⟩
theorem ixw_tup {xs : List D} {i : Int} {d : D} (e : atD xs i = some d) (q : Q (.sh d)) : IxW X (.tup xs) (.int i) Q := fun F0 T F G H r σ va vb S h1 h2 => by
  obtain ⟨p, vs, rfl, k1, k2⟩ := h1.tup S.bas.fh
  cases h2.int
  obtain ⟨v, k3, k4⟩ := atD_get k2 e
  exact ⟨_, ix_tup, p, vs, i, v, rfl, rfl, k1, k3, .sh d, F, Ex.refl _, S, k4, q⟩
theorem atD_nat {xs : List D} {j : Nat} {d : D} (e : xs[j]? = some d) : atD xs (j : Int) = some d := by
  have hj := (List.getElem?_eq_some_iff.mp e).1
  unfold atD ixN
  rw [if_pos (by omega), if_pos (by omega)]
  simpa using e
/-- one operand -/
theorem we_un {op : UnaryOp} {Q : Res → Env2 → GD → Prop} (hop : op = .USub) (h : WE X a r G fun x r1 G1 => ∃ i, vw r1 x = some (.int i) ∧ Q (.sh (.int (-i))) r1 G1) : WE X (.UnaryOp op a pos) r G Q := fun F0 T F H σ lk S => by
  subst hop
  exact Run.of (pe_un un_neg peR) ((h F0 T F H σ lk S).mono fun va H1 ⟨x, r1, G1, F1, e1, S1, k1, i, h1, h2⟩ => ⟨i, (S1.view k1 h1).int, .sh (.int (-i)), r1, G1, F1, e1, S1, rfl, h2⟩)
end
inductive All2 {A B : Type} (R : A → B → Prop) : List A → List B → Prop
  | nil : All2 R [] []
  | cons {a : A} {b : B} {as : List A} {bs : List B} (h : R a b) (t : All2 R as bs) : All2 R (a :: as) (b :: bs)
section
variable {X : Cy} {e a b c o : Expr} {es : List Expr} {st : Stmt} {sts rest body orelse : List Stmt} {r : Env2} {G : GD} {pos : Pos} {D0 : EndsD}
theorem wb_nil (h : D0.nx r G) : WB X [] r G D0 := fun F0 T F H σ lk S => RunB.of pss_nil ⟨r, G, F, S, h⟩
theorem wb_cons (h : WS X st r G { D0 with nx := fun r1 G1 => WB X rest r1 G1 D0 }) : WB X (st :: rest) r G D0 := fun F0 T F H σ lk S =>
  RunB.of (pss_cons psR pbR) ((h F0 T F H σ lk S).mono (fun σ' H' ⟨r', G', F', S', q⟩ => q F0 T F' H' σ' lk S') (fun _ _ z => z) (fun _ _ z => z) (fun _ _ z => z))
/-- a block's state cut: what holds behind the first statement -/
theorem wb_cut (W : Env2 → GD → Prop) (h : WS X st r G { D0 with nx := W }) (k : ∀ r1 G1, W r1 G1 → WB X rest r1 G1 D0) : WB X (st :: rest) r G D0 := fun F0 T F H σ lk S =>
  RunB.of (pss_cons psR pbR) ((h F0 T F H σ lk S).mono (fun σ' H' ⟨r', G', F', S', q⟩ => k r' G' q F0 T F' H' σ' lk S') (fun _ _ z => z) (fun _ _ z => z) (fun _ _ z => z))
theorem ws_if (h : WT X c r G fun d r1 G1 => (d = true → WB X body r1 G1 D0) ∧ (d = false → WB X orelse r1 G1 D0)) : WS X (.If c body orelse pos) r G D0 := fun F0 T F H σ lk S =>
  RunS.of (ps_if ptR pbR pbR) ((h F0 T F H σ lk S).mono fun d H1 ⟨r1, G1, F1, e1, S1, q1, q2⟩ => by
    cases d with
    | true => rw [if_pos rfl]; exact q1 rfl F0 T F1 H1 σ lk S1
    | false => rw [if_neg Bool.false_ne_true]; exact q2 rfl F0 T F1 H1 σ lk S1)
theorem ws_expr (h : WE X e r G fun _ r1 G1 => D0.nx r1 G1) (hs : swapsWith e none pos.line X.env = pure false := by rfl) : WS X (.Expr e pos) r G D0 := fun F0 T F H σ lk S =>
  RunS.of (ps_expr peR hs) ((h F0 T F H σ lk S).mono fun v H1 ⟨x, r1, G1, F1, e1, S1, k1, q⟩ => ⟨r1, G1, F1, S1, q⟩)
/-- what is handed out -/
def rtS (r : Env2) : Res → Option Res
  | .sh d => some (.sh d)
  | .fr d => some (.fr d)
  | .pk i => match r[i]? with
    | some (.own d) => some (.fr d)
    | _ => none
theorem ws_ret (h : WE X e r G fun x r1 G1 => ∃ y, rtS r1 x = some y ∧ D0.rt y G1) : WS X (.Return (some e) pos) r G D0 := fun F0 T F H σ lk S =>
  RunS.of (ps_ret peR) ((h F0 T F H σ lk S).mono fun v H1 ⟨x, r1, G1, F1, e1, S1, k1, y, q1, q2⟩ => by
    refine ⟨y, G1, F1, S1.bas, ?_, q2⟩
    cases x with
    | sh d => cases q1; exact k1
    | fr d => cases q1; obtain ⟨p, z1, z2, z3, z4, z5, _⟩ := k1; exact ⟨p, z1, z2, z3, z4, z5⟩
    | pk i =>
      obtain ⟨h1, d, h2⟩ := k1
      have q1' : (match r1[i]? with | some (.own d) => some (Res.fr d) | _ => none) = some y := q1
      rw [h2] at q1'
      cases q1'
      obtain ⟨p, z1, z2, z3, z4, z5⟩ := S1.ownS h2
      rw [h1] at z1; cases z1
      exact ⟨p, rfl, z2, z3, z4, z5⟩)
def putS (r : Env2) (i : Nat) : Res → Option Env2
  | .sh d => some (r.set i (.sh d))
  | .fr d => some (r.set i (.own d))
  | .pk j => match r[j]? with
    | some (.own d) => if isDic d then none else some ((r.set j (.sh d)).set i (.sh d))
    | _ => none
theorem Sta.putS {K : PySem.W.Frag} {F0 T F : Hp} {G : GD} {H : Hp} {r r2 : Env2} {σ : L2.St} {x : Res} {v : V} {i : Nat} (S : Sta K F0 T F G H r σ) (h : ResOk K T F G H r σ x v) (hi : i < r.length) (e : putS r i x = some r2) : ∃ F', Ex F F' ∧ Sta K F0 T F' G H r2 (σ.set i (some v)) := by
  cases x with
  | sh d => cases e; exact ⟨F, Ex.refl _, S.set hi ⟨v, rfl, h⟩ fun d' z => nomatch z⟩
  | fr d =>
    cases e
    obtain ⟨p, z1, z2, z3, z4, z5, z6⟩ := h
    subst z1
    exact ⟨F, Ex.refl _, S.set hi ⟨p, rfl, z2, z3, z4, z5⟩ fun d' _ j e' he _ => z6 j e' he⟩
  | pk j =>
    obtain ⟨h1, d, h2⟩ := h
    have e' : (match r[j]? with | some (.own d) => if isDic d then none else some ((r.set j (.sh d)).set i (.sh d)) | _ => none) = some r2 := e
    rw [h2] at e'
    dsimp only at e'
    have hD : isDic d = false := by
      cases hD : isDic d with
      | true => rw [hD] at e'; cases e'
      | false => rfl
    rw [hD] at e'
    cases e'
    obtain ⟨F', k1, k2, v', k3, k4⟩ := S.frzSlot hD h2
    rw [h1] at k3; cases k3
    exact ⟨F', k1, k2.set (by rw [List.length_set]; exact hi) ⟨v, rfl, k4⟩ fun d' z => nomatch z⟩
theorem ws_set (i : Nat) {x : Str} {pos' : Pos} (hN : X.N.Nodup) (hi : X.N[i]? = some x) (hx : Loc X.env.scope x) (h : WE X e r G fun y r1 G1 => i < r1.length ∧ ∃ r2, putS r1 i y = some r2 ∧ D0.nx r2 G1)
    (hs : swapsWith e (some (.Name x pos')) pos.line X.env = pure false := by rfl) (hf : X.fn x = true ∨ X.env.scope.names.lookup x = some .local := by first | exact .inl rfl | exact .inr rfl | assumption) : WS X (.Assign [.Name x pos'] e pos) r G D0 := fun F0 T F H σ lk S =>
  RunS.of (ps_set hN hi hx peR hs hf) ((h F0 T F H σ lk S).mono fun v H1 ⟨y, r1, G1, F1, e1, S1, k1, hi', r2, q1, q2⟩ => by
    obtain ⟨F2, e2, S2⟩ := S1.putS k1 hi' q1
    exact ⟨r2, G1, F2, S2, q2⟩)
/-- targets: names in a row, from frozen data -/
theorem pgs_run : ∀ {tg : List Expr} {ixs : List Nat}, All2 (fun t i => PG X t (gName i)) tg ixs → (∀ t ∈ tg, ∀ ts, (assignEach (t :: ts) X.env).map (·.2) = assign t X.env :: (assignEach ts X.env).map (·.2)) →
    PGs X tg (fun vs σ H Q => vs.length = ixs.length ∧ Q ((ixs.zip vs).foldl (fun s p => s.set p.1 (some p.2)) σ) H)
  | [], [], .nil, _ => ⟨fun pins s σ H vs us Q I rv h => (pgs_nil (X := X)).run pins s σ H vs us Q I rv ⟨List.length_eq_zero_iff.mp h.1, by
      have e : vs = [] := List.length_eq_zero_iff.mp h.1
      subst e
      exact h.2⟩⟩
  | t :: tg, i :: ixs, .cons hp hr, hs => ⟨fun pins s σ H vs us Q I rv h => by
      obtain ⟨hl, q⟩ := h
      cases vs with
      | nil => simp at hl
      | cons v vs =>
        refine (pgs_cons hp (pgs_run hr fun t' ht => hs t' (List.mem_cons_of_mem _ ht)) (hs t List.mem_cons_self tg)).run pins s σ H (v :: vs) us Q I rv ⟨v, vs, rfl, ?_⟩
        exact ⟨by simpa using hl, q⟩⟩
def setAll (r : Env2) : List Nat → List D → Env2
  | i :: is, d :: ds => setAll (r.set i (.sh d)) is ds
  | _, _ => r
theorem Sta.setAll {K : PySem.W.Frag} {F0 T F : Hp} {G : GD} {H : Hp} : ∀ (is : List Nat) (ds : List D) (vs : List V) {r : Env2} {σ : L2.St}, Sta K F0 T F G H r σ → RepL K F ds vs → is.length = ds.length → (∀ i ∈ is, i < r.length) →
    Sta K F0 T F G H (setAll r is ds) ((is.zip vs).foldl (fun s p => s.set p.1 (some p.2)) σ)
  | [], [], vs, r, σ, S, h, _, _ => by
    unfold RB.setAll
    exact S
  | i :: is, d :: ds, vs, r, σ, S, h, hl, hi => by
    obtain ⟨v, vr, rfl, h1, h2⟩ := h
    unfold RB.setAll
    exact Sta.setAll is ds vr (S.set (hi i List.mem_cons_self) ⟨v, rfl, h1⟩ fun d' z => nomatch z) h2 (by simpa using hl) fun j hj => by rw [List.length_set]; exact hi j (List.mem_cons_of_mem _ hj)
  | [], d :: ds, vs, r, σ, S, h, hl, _ => by simp at hl
  | i :: is, [], vs, r, σ, S, h, hl, _ => by simp at hl
/-- a, b, .. = e : e a tuple -/
theorem ws_unpack {tg : List Expr} {k : Nat} {tpos : Pos} (is : List Nat) (hc : X.calm = true) (hp : All2 (fun t i => PG X t (gName i)) tg is) (hst : ∀ t ∈ tg, ∀ ts, (assignEach (t :: ts) X.env).map (·.2) = assign t X.env :: (assignEach ts X.env).map (·.2))
    (h : WE X e r G fun y r1 G1 => ∃ ds r2, fz r1 y = some (.tup ds, r2) ∧ ds.length = is.length ∧ (∀ i ∈ is, i < r2.length) ∧ D0.nx (setAll r2 is ds) G1)
    (hn : (assignEach tg X.env).length = is.length := by rfl) (hf : (assignEach tg X.env).findIdx? (·.1) = none := by rfl)
    (hs : swapsWithSole [.Tuple tg k tpos] e pos.line X.env = pure false := by rfl) (hw : swappedStores [.Tuple tg k tpos] e X.env = pure none := by rfl)
    (h1 : (assignEach [.Tuple tg k tpos] X.env).map (·.2) = [assign (.Tuple tg k tpos) X.env] := by rfl) : WS X (.Assign [.Tuple tg k tpos] e pos) r G D0 := fun F0 T F H σ lk S =>
  RunS.of (ps_asg peR (pg_tup hc (pgs_run hp hst) hn hf) hs hw h1) ((h F0 T F H σ lk S).mono fun v H1 ⟨y, r1, G1, F1, e1, S1, k1, ds, r2, q1, q2, q3, q4⟩ => by
    obtain ⟨F2, e2, S2, rp⟩ := S1.fz k1 q1
    obtain ⟨a, vs, rfl, z1, z2⟩ := rp
    refine ⟨a, vs, rfl, S2.bas.fh.sqT z1, by rw [z2.length]; exact q2, by rw [z2.length]; exact q2, ?_⟩
    exact ⟨_, G1, F2, S2.setAll is ds vs z2 q2.symm q3, q4⟩)
/-- a result that is no own slot -/
def nz (r : Env2) : Res → Option (Res × Env2)
  | .sh d => some (.sh d, r)
  | .fr d => some (.fr d, r)
  | .pk i => match r[i]? with
    | some (.own d) => if isDic d then none else some (.sh d, r.set i (.sh d))
    | _ => none
def slO : Res → Sl
  | .sh d => .sh d
  | .fr d => .own d
  | .pk _ => .no
theorem Sta.nz {K : PySem.W.Frag} {F0 T F : Hp} {G : GD} {H : Hp} {r r2 : Env2} {σ : L2.St} {x y : Res} {v : V} (S : Sta K F0 T F G H r σ) (h : ResOk K T F G H r σ x v) (e : nz r x = some (y, r2)) : ∃ F', Ex F F' ∧ Sta K F0 T F' G H r2 σ ∧ ResOk K T F' G H r2 σ y v ∧ ∀ i, y ≠ .pk i := by
  cases x with
  | sh d => cases e; exact ⟨F, Ex.refl _, S, h, fun i z => nomatch z⟩
  | fr d => cases e; exact ⟨F, Ex.refl _, S, h, fun i z => nomatch z⟩
  | pk i =>
    obtain ⟨h1, d, h2⟩ := h
    have e' : (match r[i]? with | some (.own d) => if isDic d then none else some (Res.sh d, r.set i (.sh d)) | _ => none) = some (y, r2) := e
    rw [h2] at e'
    dsimp only at e'
    have hD : isDic d = false := by
      cases hD : isDic d with
      | true => rw [hD] at e'; cases e'
      | false => rfl
    rw [hD] at e'
    cases e'
    obtain ⟨F', k1, k2, v', k3, k4⟩ := S.frzSlot hD h2
    rw [h1] at k3; cases k3
    exact ⟨F', k1, k2, k4, fun i z => nomatch z⟩
theorem holdT {K : PySem.W.Frag} {F0 T F : Hp} {G : GD} {H : Hp} {r : Env2} {σ : L2.St} {z : Res} {v : V} (S : Sta K F0 T F G H r σ) (h : ResOk K T F G H r σ z v) (hz : ∀ i, z ≠ .pk i) :
    ∃ T', Ex T T' ∧ Sta K F0 T' F G H r σ ∧ ∀ (F2 : Hp) (G2 : GD) (H2 : Hp) (r2 : Env2) (σ2 : L2.St), Ex F F2 → Sta K F0 T' F2 G2 H2 r2 σ2 → Sta K F0 T F2 G2 H2 r2 σ2 ∧ ResOk K T F2 G2 H2 r2 σ2 z v ∧
      ∀ (z2 : Res) (v2 : V), ResOk K T' F2 G2 H2 r2 σ2 z2 v2 → ResOk K T F2 G2 H2 r2 σ2 z2 v2 ∧ ∀ d d2, z = .fr d → z2 = .fr d2 → v ≠ v2 := by
  cases z with
  | pk i => exact absurd rfl (hz i)
  | sh d => exact ⟨T, Ex.refl _, S, fun F2 G2 H2 r2 σ2 ex S2 => ⟨S2, Rep.mono ex _ _ h, fun z2 v2 k => ⟨k, fun d d2 q => nomatch q⟩⟩⟩
  | fr d =>
    obtain ⟨p, rfl, z2, z3, z4, z5, z6⟩ := h
    obtain ⟨o, ho⟩ := z2.there
    refine ⟨upd T p o, Ex.new z5, ?_, ?_⟩
    · refine ⟨⟨S.bas.ff, fun q u hq => ?_, S.bas.fh, S.bas.gh, S.bas.fg, fun q u hq => ?_, fun q u hq => ?_⟩, S.len, fun i s hs => ?_, S.ap⟩
      · have hqp : q ≠ p := fun zz => by subst zz; rw [z3] at hq; cases hq
        rw [upd_ne hqp]
        exact S.bas.ft q u hq
      · have hqp : q ≠ p := fun zz => by subst zz; rw [z4] at hq; cases hq
        rw [upd_ne hqp]
        exact S.bas.gt q u hq
      · by_cases hqp : q = p
        · subst hqp; rw [upd_same] at hq; cases hq; exact ho
        · rw [upd_ne hqp] at hq; exact S.bas.tk q u hq
      · have hh := S.sl i s hs
        cases s with
        | no => trivial
        | sh d => exact hh
        | own d =>
          obtain ⟨p', y1, y2, y3, y4, y5⟩ := hh
          have hqp : p' ≠ p := fun zz => by subst zz; exact z6 i d hs y1
          exact ⟨p', y1, y2, y3, y4, by rw [upd_ne hqp]; exact y5⟩
    · intro F2 G2 H2 r2 σ2 ex S2
      have tsub : ∀ q u, T q = some u → upd T p o q = some u := fun q u hq => by
        have hqp : q ≠ p := fun zz => by subst zz; rw [z5] at hq; cases hq
        rw [upd_ne hqp]; exact hq
      have tdown : ∀ q, upd T p o q = none → T q = none := fun q hq => by
        cases hf : T q with
        | none => rfl
        | some u => rw [tsub q u hf] at hq; cases hq
      have tp : ∀ q, upd T p o q = none → q ≠ p := fun q hq zz => by subst zz; rw [upd_same] at hq; cases hq
      have fp : F2 p = none := by
        cases hf : F2 p with
        | none => rfl
        | some u =>
          rcases S2.bas.ft p u hf with zz | zz
          · have := S.bas.ff p u zz
            rw [z3] at this; cases this
          · exact absurd rfl (tp p zz)
      have gp : G2 p = none := by
        cases hf : G2 p with
        | none => rfl
        | some u => exact absurd rfl (tp p (S2.bas.gt p u hf))
      refine ⟨⟨⟨S2.bas.ff, fun q u hq => (S2.bas.ft q u hq).imp id (tdown q), S2.bas.fh, S2.bas.gh, S2.bas.fg, fun q u hq => tdown q (S2.bas.gt q u hq), fun q u hq => S2.bas.tk q u (tsub q u hq)⟩, S2.len, fun i s hs => ?_, S2.ap⟩, ⟨p, rfl, z2.mono ex fun u hu => by rw [ho] at hu; cases hu; exact S2.bas.tk p o upd_same, fp, gp, z5, fun k d' hk zz => ?_⟩, fun z2' v2 k => ?_⟩
      · have hh := S2.sl i s hs
        cases s with
        | no => trivial
        | sh d => exact hh
        | own d =>
          obtain ⟨p', k1, k2, k3, k4, k5⟩ := hh
          exact ⟨p', k1, k2, k3, k4, tdown p' k5⟩
      · obtain ⟨p', k1, _, _, _, k5⟩ := S2.ownS hk
        rw [zz] at k1; cases k1
        exact tp p k5 rfl
      · cases z2' with
        | sh d => exact ⟨k, fun d d2 _ q => nomatch q⟩
        | pk i => exact ⟨k, fun d d2 _ q => nomatch q⟩
        | fr d' =>
          obtain ⟨p2, rfl, k2, k3, k4, k5, k6⟩ := k
          exact ⟨⟨p2, rfl, k2, k3, k4, tdown p2 k5, k6⟩, fun _ _ _ _ zz => by cases zz; exact tp p k5 rfl⟩
/-- a held result goes to a slot -/
theorem Sta.setR {K : PySem.W.Frag} {F0 T F : Hp} {G : GD} {H : Hp} {r : Env2} {σ : L2.St} {z : Res} {v : V} {i : Nat} (S : Sta K F0 T F G H r σ) (h : ResOk K T F G H r σ z v) (hi : i < r.length) (hz : ∀ i, z ≠ .pk i) : Sta K F0 T F G H (r.set i (slO z)) (σ.set i (some v)) := by
  cases z with
  | pk j => exact absurd rfl (hz j)
  | sh d => exact S.set hi ⟨v, rfl, h⟩ fun d' z => nomatch z
  | fr d =>
    obtain ⟨p, rfl, z2, z3, z4, z5, z6⟩ := h
    exact S.set hi ⟨p, rfl, z2, z3, z4, z5⟩ fun d' _ j e' he _ => z6 j e' he
/-- .. and another held one stays good -/
theorem ResOk.setR {K : PySem.W.Frag} {T F : Hp} {G : GD} {H : Hp} {r : Env2} {σ : L2.St} {z z2 : Res} {v v2 : V} {i : Nat} (h2 : ResOk K T F G H r σ z2 v2) (hi : i < r.length) (hl : r.length = σ.length) (hz : ∀ i, z ≠ .pk i) (hz2 : ∀ i, z2 ≠ .pk i) (hd : ∀ d d2, z = .fr d → z2 = .fr d2 → v ≠ v2) :
    ResOk K T F G H (r.set i (slO z)) (σ.set i (some v)) z2 v2 := by
  cases z2 with
  | pk j => exact absurd rfl (hz2 j)
  | sh d => exact h2
  | fr d =>
    obtain ⟨p, rfl, k2, k3, k4, k5, k6⟩ := h2
    refine ⟨p, rfl, k2, k3, k4, k5, fun k e' he zz => ?_⟩
    by_cases hki : i = k
    · subst hki
      rw [List.getElem?_set_self hi] at he
      rw [List.getElem?_set_self (by rw [← hl]; exact hi)] at zz
      cases z with
      | pk j => exact hz j rfl
      | sh d' => cases he
      | fr d' => cases zz; exact hd d' d rfl rfl rfl
    · rw [List.getElem?_set_ne hki] at he zz
      exact k6 k e' he zz
/-- a, b = e1, e2 with local names -/
theorem ws_par (i j : Nat) {x y : Str} {px py pt : Pos} {kt k2 pt2} (hc : X.calm = true) (hN : X.N.Nodup) (hi : X.N[i]? = some x) (hj : X.N[j]? = some y) (hij : i ≠ j) (hx : X.env.scope.names.lookup x = some .local) (hy : X.env.scope.names.lookup y = some .local)
    (hw : swappedStores [.Tuple [.Name x px, .Name y py] kt pt] (.Tuple [a, b] k2 pt2) X.env = pure (some [x, y]))
    (h : WE X a r G fun z r1 G1 => ∃ z' r2, nz r1 z = some (z', r2) ∧ WE X b r2 G1 fun w r3 G3 => ∃ w' r4, nz r3 w = some (w', r4) ∧ i < r4.length ∧ j < r4.length ∧ D0.nx ((r4.set i (slO z')).set j (slO w')) G3)
    (hs : swapsWithSole [.Tuple [.Name x px, .Name y py] kt pt] (.Tuple [a, b] k2 pt2) pos.line X.env = pure false := by rfl)
    (h1 : starEach [a, b] X.env = (false, eval a X.env) :: starEach [b] X.env := by rfl) (h2 : starEach [b] X.env = (false, eval b X.env) :: starEach [] X.env := by rfl) :
    WS X (.Assign [.Tuple [.Name x px, .Name y py] kt pt] (.Tuple [a, b] k2 pt2) pos) r G D0 := fun F0 T F H σ lk S =>
  RunS.of (ps_par hc hN hi hj hij hx hy (pa_cons peR (pa_cons peR pa_nil h2) h1) hw hs) ((h F0 T F H σ lk S).mono fun v H1 ⟨z, r1, G1, F1, e1, S1, k1, z', r2, q1, q2⟩ => by
    obtain ⟨F2, e2, S2, k2, hz⟩ := S1.nz k1 q1
    obtain ⟨T', tx, S2', hold⟩ := holdT S2 k2 hz
    refine (q2 F0 T' F2 H1 σ (lk.ext tx) S2').mono fun w H3 ⟨u, r3, G3, F3, e3, S3, k3, w', r4, q3, hi', hj', q4⟩ => ?_
    obtain ⟨F4, e4, S4, k4, hz4⟩ := S3.nz k3 q3
    obtain ⟨S5, m1, m2⟩ := hold F4 G3 H3 r4 σ (e3.trans e4) S4
    obtain ⟨m3, m4⟩ := m2 w' w k4
    refine ⟨v, w, rfl, _, G3, F4, ?_, q4⟩
    exact (S5.setR m1 hi' hz).setR (m3.setR hi' S5.len hz hz4 m4) (by rw [List.length_set]; exact hj') hz4)
end
def isort (ns : List Int) : List Int := ns.mergeSort fun a b => decide (a ≤ b)
theorem isort_perm (ns : List Int) : (isort ns).Perm ns := List.mergeSort_perm ns _
theorem isort_sorted (ns : List Int) : (isort ns).Pairwise (· ≤ ·) := by
  have h := List.pairwise_mergeSort (le := fun a b : Int => decide (a ≤ b)) (fun a b c h1 h2 => by simp at *; omega) (fun a b => by simp; omega) ns
  exact h.imp fun h => by simpa using h
theorem sorted_unique : ∀ {xs ys : List Int}, xs.Perm ys → xs.Pairwise (· ≤ ·) → ys.Pairwise (· ≤ ·) → xs = ys := fun {xs ys} p h1 h2 =>
  List.Perm.eq_of_pairwise (le := (· ≤ ·)) (fun a b _ _ h h' => Int.le_antisymm h h') h1 h2 p
theorem isort_of {xs ys : List Int} (p : xs.Perm ys) (h : xs.Pairwise (· ≤ ·)) : xs = isort ys := sorted_unique (p.trans (isort_perm ys).symm) h (isort_sorted ys)
section
variable {X : Cy} {e a b c o : Expr} {es : List Expr} {st : Stmt} {sts rest body orelse : List Stmt} {r : Env2} {G : GD} {pos p0 : Pos} {D0 : EndsD} {Q : Res → Prop}
def CallW1 (X : Cy) (f : Value) (d : D) (Q : Res → Prop) : Prop :=
  ∀ (F0 T F : Hp) (G : GD) (H : Hp) (r : Env2) (σ : L2.St) (v : V), Sta X.K F0 T F G H r σ → Vw X.K F H d v →
    ∃ rr : List V → Hp → VK → Prop, CallR X f rr ∧ rr [v] H (fun v' H' => ∃ x F', Ex F F' ∧ Sta X.K F0 T F' G H' r σ ∧ ResOk X.K T F' G H' r σ x v' ∧ Q x)
def CallW2 (X : Cy) (f : Value) (da db : D) (Q : Res → Prop) : Prop :=
  ∀ (F0 T F : Hp) (G : GD) (H : Hp) (r : Env2) (σ : L2.St) (va vb : V), Sta X.K F0 T F G H r σ → Vw X.K F H da va → Vw X.K F H db vb →
    ∃ rr : List V → Hp → VK → Prop, CallR X f rr ∧ rr [va, vb] H (fun v' H' => ∃ x F', Ex F F' ∧ Sta X.K F0 T F' G H' r σ ∧ ResOk X.K T F' G H' r σ x v' ∧ Q x)
def callU (X : Cy) (f : Value) : List V → Hp → VK → Prop := fun vs H Q => ∃ rr : List V → Hp → VK → Prop, CallR X f rr ∧ rr vs H Q
theorem callU_ok (f : Value) : CallR X f (callU X f) := fun pins s σ H xs us Q I rv ⟨rr, h1, h2⟩ => h1 pins s σ H xs us Q I rv h2
theorem CallR.post {f : Value} {rr : List V → Hp → VK → Prop} (h : CallR X f rr) (P : VK) : CallR X f (fun vs H Q' => rr vs H P ∧ ∀ v H', P v H' → Q' v H') := fun pins s σ H xs us Q' I rv ⟨q, m⟩ =>
  wpAny_mono (h pins s σ H xs us P I rv q) (fun _ _ ⟨v, H', I', rl, q⟩ => ⟨v, H', I', rl, m v H' q⟩) fun _ _ x => x
theorem one1 {f : Value} {Q : Res → Env2 → GD → Prop} {F0 T F H : Hp} {σ : L2.St} (lk : Lk X F0 T) (S : Sta X.K F0 T F G H r σ) (h : WE X e r G fun x r1 G1 => ∃ d, VwR r1 G1 x d ∧ CallW1 X f d fun z => Q z r1 G1) :
    tCB (callU X f) (tCons (Run X e) tNil) σ H (PostE X.K F0 T F σ Q) := by
  refine (h F0 T F H σ lk S).mono fun v H1 ⟨x, r1, G1, F1, e1, S1, k1, d, q1, q2⟩ => ?_
  obtain ⟨rr, h3, h4⟩ := q2 F0 T F1 G1 H1 r1 σ v S1 (S1.viewR k1 q1)
  exact ⟨_, CallR.post h3 _, h4, fun v H' ⟨z, F', m1, m2, m3, m4⟩ => ⟨z, r1, G1, F', e1.trans m1, m2, m3, m4⟩⟩
theorem we_b1 {x : Str} {id : String} {Q : Res → Env2 → GD → Prop} (hg : Gl X x) (hm : X.mg x = none) (hv : bootBuiltins x = some (.builtin id)) (h : WE X e r G fun x r1 G1 => ∃ d, VwR r1 G1 x d ∧ CallW1 X (.builtin id) d fun z => Q z r1 G1)
    (hn : x ≠ "__name__" := by decide) (hdb : (x == ("__debug__" : Str)) = false := by decide) (he : starEach [e] X.env = (false, eval e X.env) :: starEach [] X.env := by rfl) (hpl : (backTo pos (starEach [] X.env)).any (·.1) = false := by rfl) :
    WE X (.Call (.Name x p0) [e] [] pos) r G Q := fun F0 T F H σ lk S => Run.of (pe_callB (callU_ok _) hg hm hv (pa_cons peR pa_nil he) hn hdb he hpl) (one1 lk S h)
theorem we_t1 {x : Str} {id : String} {Q : Res → Env2 → GD → Prop} (hg : Gl X x) (hm : X.mg x = none) (hv : bootBuiltins x = some (.type id)) (h : WE X e r G fun x r1 G1 => ∃ d, VwR r1 G1 x d ∧ CallW1 X (.type id) d fun z => Q z r1 G1)
    (hn : x ≠ "__name__" := by decide) (hdb : (x == ("__debug__" : Str)) = false := by decide) (he : starEach [e] X.env = (false, eval e X.env) :: starEach [] X.env := by rfl) (hpl : (backTo pos (starEach [] X.env)).any (·.1) = false := by rfl) :
    WE X (.Call (.Name x p0) [e] [] pos) r G Q := fun F0 T F H σ lk S => Run.of (pe_callTy (callU_ok _) hg hm hv (pa_cons peR pa_nil he) hn hdb he hpl) (one1 lk S h)
theorem two2 {f : Value} {Q : Res → Env2 → GD → Prop} {F0 T F H : Hp} {σ : L2.St} (lk : Lk X F0 T) (S : Sta X.K F0 T F G H r σ) (h : WE X a r G fun x r1 G1 => WE X b r1 G1 fun y r2 G2 => ∃ da db, VwR r2 G2 x da ∧ VwR r2 G2 y db ∧ CallW2 X f da db fun z => Q z r2 G2) :
    tCB (callU X f) (tCons (Run X a) (tCons (Run X b) tNil)) σ H (PostE X.K F0 T F σ Q) := by
  refine (h F0 T F H σ lk S).mono fun va H1 ⟨x, r1, G1, F1, e1, S1, k1, h1⟩ => ?_
  obtain ⟨F1', e1', S1', hv⟩ := hold S1 k1
  refine (h1 F0 T F1' H1 σ lk S1').mono fun vb H2 ⟨y, r2, G2, F2, e2, S2, k2, da, db, q1, q2, q3⟩ => ?_
  obtain ⟨rr, h3, h4⟩ := q3 F0 T F2 G2 H2 r2 σ va vb S2 (hv F2 G2 H2 r2 da e2 S2 q1) (S2.viewR k2 q2)
  exact ⟨_, CallR.post h3 _, h4, fun v H' ⟨z, F', m1, m2, m3, m4⟩ => ⟨z, r2, G2, F', ((e1.trans e1').trans e2).trans m1, m2, m3, m4⟩⟩
theorem we_b2 {x : Str} {id : String} {Q : Res → Env2 → GD → Prop} (hg : Gl X x) (hm : X.mg x = none) (hv : bootBuiltins x = some (.builtin id)) (h : WE X a r G fun x r1 G1 => WE X b r1 G1 fun y r2 G2 => ∃ da db, VwR r2 G2 x da ∧ VwR r2 G2 y db ∧ CallW2 X (.builtin id) da db fun z => Q z r2 G2)
    (hn : x ≠ "__name__" := by decide) (hdb : (x == ("__debug__" : Str)) = false := by decide) (he : starEach [a, b] X.env = (false, eval a X.env) :: starEach [b] X.env := by rfl) (he2 : starEach [b] X.env = (false, eval b X.env) :: starEach [] X.env := by rfl) (hpl : (backTo pos (starEach [b] X.env)).any (·.1) = false := by rfl) :
    WE X (.Call (.Name x p0) [a, b] [] pos) r G Q := fun F0 T F H σ lk S => Run.of (pe_callB (callU_ok _) hg hm hv (pa_cons peR (pa_cons peR pa_nil he2) he) hn hdb he hpl) (two2 lk S h)
theorem c1_flat {f : Value} {d d' : D} {v' : V} (hd : ∀ K F, Rep K F d' v') (h : ∀ F H v, Ex F H → Vw X.K F H d v → ∃ rr, CallR X f rr ∧ ∀ P : VK, P v' H → rr [v] H P) (q : Q (.sh d')) : CallW1 X f d Q :=
  fun F0 T F G H r σ v S h1 => by
    obtain ⟨rr, k1, k2⟩ := h F H v S.bas.fh h1
    exact ⟨rr, k1, k2 _ ⟨.sh d', F, Ex.refl _, S, hd _ _, q⟩⟩
theorem c2_flat {f : Value} {da db d' : D} {v' : V} (hd : ∀ K F, Rep K F d' v') (h : ∀ F H va vb, Ex F H → Vw X.K F H da va → Vw X.K F H db vb → ∃ rr, CallR X f rr ∧ ∀ P : VK, P v' H → rr [va, vb] H P) (q : Q (.sh d')) : CallW2 X f da db Q :=
  fun F0 T F G H r σ va vb S h1 h2 => by
    obtain ⟨rr, k1, k2⟩ := h F H va vb S.bas.fh h1 h2
    exact ⟨rr, k1, k2 _ ⟨.sh d', F, Ex.refl _, S, hd _ _, q⟩⟩
theorem c_len {ds : List D} (q : Q (.sh (.int (ds.length : Nat)))) : CallW1 X (.builtin "len") (.lst ds) Q :=
  c1_flat (d' := .int (ds.length : Nat)) (v' := .int (ds.length : Nat)) (fun _ _ => rfl) (fun F H v ex h => by
    obtain ⟨p, vs, rfl, k1, k2⟩ := h.lst ex
    exact ⟨_, call_len_seq, fun P hp => ⟨p, vs, rfl, .inl (.inl k1), by rw [k2.length]; exact hp⟩⟩) q
theorem c_lenT {ds : List D} (q : Q (.sh (.int (ds.length : Nat)))) : CallW1 X (.builtin "len") (.tup ds) Q :=
  c1_flat (d' := .int (ds.length : Nat)) (v' := .int (ds.length : Nat)) (fun _ _ => rfl) (fun F H v ex h => by
    obtain ⟨p, vs, rfl, k1, k2⟩ := h.tup ex
    exact ⟨_, call_len_seq, fun P hp => ⟨p, vs, rfl, .inr k1, by rw [k2.length]; exact hp⟩⟩) q
theorem c_int {i : Int} (q : Q (.sh (.int i))) : CallW1 X (.type "int") (.int i) Q :=
  c1_flat (d' := .int i) (v' := .int i) (fun _ _ => rfl) (fun F H v ex h => ⟨_, call_int1, fun P hp => .inl ⟨i, by rw [h.int], hp⟩⟩) q
theorem c_max2 {i j : Int} (hc : X.calm = true) (q : Q (.sh (.int (if j > i then j else i)))) : CallW2 X (.builtin "max") (.int i) (.int j) Q :=
  c2_flat (d' := .int (if j > i then j else i)) (v' := .int (if j > i then j else i)) (fun _ _ => rfl) (fun F H va vb ex h1 h2 => ⟨_, call_max2 hc, fun P hp => ⟨i, j, by rw [h1.int, h2.int], hp⟩⟩) q
theorem c_min2 {i j : Int} (hc : X.calm = true) (q : Q (.sh (.int (if j < i then j else i)))) : CallW2 X (.builtin "min") (.int i) (.int j) Q :=
  c2_flat (d' := .int (if j < i then j else i)) (v' := .int (if j < i then j else i)) (fun _ _ => rfl) (fun F H va vb ex h1 h2 => ⟨_, call_min2 hc, fun P hp => ⟨i, j, by rw [h1.int, h2.int], hp⟩⟩) q
/-- a new list, a new tuple as the result -/
theorem new_lst {K : PySem.W.Frag} {F0 T F : Hp} {G : GD} {H : Hp} {r : Env2} {σ : L2.St} (S : Sta K F0 T F G H r σ) {ds : List D} {vs : List V} (h : RepL K F ds vs) {p : Addr} (hp : H p = none) {Q : Res → Prop} (q : Q (.fr (.lst ds))) :
    ∃ x F', Ex F F' ∧ Sta K F0 T F' G (upd H p (.lst vs)) r σ ∧ ResOk K T F' G (upd H p (.lst vs)) r σ x (.ref p) ∧ Q x := by
  obtain ⟨f1, f2, f3⟩ := S.bas.freshF hp
  exact ⟨.fr (.lst ds), F, Ex.refl _, S.newH hp, ⟨p, rfl, ⟨vs, upd_same, h⟩, f1, f2, f3, S.freshR hp⟩, q⟩
theorem new_tup {K : PySem.W.Frag} {F0 T F : Hp} {G : GD} {H : Hp} {r : Env2} {σ : L2.St} (S : Sta K F0 T F G H r σ) {ds : List D} {vs : List V} (h : RepL K F ds vs) {p : Addr} (hp : H p = none) {Q : Res → Prop} (q : Q (.sh (.tup ds))) :
    ∃ x F', Ex F F' ∧ Sta K F0 T F' G (upd H p (.tup vs)) r σ ∧ ResOk K T F' G (upd H p (.tup vs)) r σ x (.ref p) ∧ Q x := by
  have ef : Ex F (upd F p (.tup vs)) := Ex.new (S.bas.freshF hp).1
  exact ⟨.sh (.tup ds), upd F p (.tup vs), ef, S.newF hp, ⟨p, vs, rfl, .inl (.inl upd_same), RepL.mono ef _ _ h⟩, q⟩
theorem c_listT {ds : List D} (q : Q (.fr (.lst ds))) : CallW1 X (.type "list") (.tup ds) Q := fun F0 T F G H r σ v S h => by
  obtain ⟨p, vs, rfl, k1, k2⟩ := h.tup S.bas.fh
  exact ⟨_, call_list_of, p, vs, rfl, .inr k1, fun l hl => new_lst S k2 hl q⟩
theorem c_tuple {ds : List D} (q : Q (.sh (.tup ds))) : CallW1 X (.type "tuple") (.lst ds) Q := fun F0 T F G H r σ v S h => by
  obtain ⟨p, vs, rfl, k1, k2⟩ := h.lst S.bas.fh
  exact ⟨_, call_tuple_of, p, vs, rfl, .inl ⟨.inl k1, fun l hl => new_tup S k2 hl q⟩⟩
theorem c_tupleT {ds : List D} (q : Q (.sh (.tup ds))) : CallW1 X (.type "tuple") (.tup ds) Q := fun F0 T F G H r σ v S h => by
  have rp : Rep X.K F (.tup ds) v := by
    rcases h with h | ⟨_, _, h⟩
    · exact h
    · exact h.elim
  obtain ⟨p, vs, rfl, k1, k2⟩ := h.tup S.bas.fh
  exact ⟨_, call_tuple_of, p, vs, rfl, .inr ⟨k1, .sh (.tup ds), F, Ex.refl _, S, rp, q⟩⟩
theorem c_sorted {ns : List Int} (q : Q (.fr (.lst ((isort ns).map D.int)))) : CallW1 X (.builtin "sorted") (.lst (ns.map D.int)) Q := fun F0 T F G H r σ v S h => by
  obtain ⟨p, vs, rfl, k1, k2⟩ := h.lst S.bas.fh
  cases k2.ints
  refine ⟨_, cr_sortedI, p, ns, rfl, .inl k1, fun ns' l p1 p2 hl => ?_⟩
  cases isort_of p1 p2
  exact new_lst S (RepL.of_ints _) hl q
def cutD (xs : List D) (lo hi : Option Int) : List D := (xs.drop (HT.sIx xs.length 0 lo)).take (HT.sIx xs.length xs.length hi - HT.sIx xs.length 0 lo)
theorem cut_rep {K : PySem.W.Frag} {F : Hp} {ds : List D} {vs : List V} (h : RepL K F ds vs) (lo hi : Option Int) : RepL K F (cutD ds lo hi) (cutV vs lo hi) := by
  unfold cutD cutV
  rw [h.length]
  exact (h.drop _).take _
def RunO (X : Cy) (oe : Option Expr) : TO := fun σ H Q => ∀ (pins : List (Addr × Obj)) (s : Shared), Inv X pins σ H s → wpAny (model X.prog X.w) X.A (evalPart oe X.env) (fun u s' => ∃ o H', Inv X pins σ H' s' ∧ IsPart u o ∧ Q o H') X.xe s
theorem poR {oe : Option Expr} : PO X oe (RunO X oe) := ⟨fun pins s _ _ _ I h => h pins s I⟩
def WO (X : Cy) (oe : Option Expr) (r : Env2) (G : GD) (Q : Option Int → Env2 → GD → Prop) : Prop :=
  ∀ (F0 T F H : Hp) (σ : L2.St), Lk X F0 T → Sta X.K F0 T F G H r σ → RunO X oe σ H (fun o H' => ∃ r' G' F', Ex F F' ∧ Sta X.K F0 T F' G' H' r' σ ∧ Q o r' G')
theorem RunO.mono {oe : Option Expr} {σ : L2.St} {H : Hp} {Q Q' : Option Int → Hp → Prop} (h : RunO X oe σ H Q) (k : ∀ v H', Q v H' → Q' v H') : RunO X oe σ H Q' := fun pins s I =>
  wpAny_mono (h pins s I) (fun _ _ ⟨o, H', I', p, q⟩ => ⟨o, H', I', p, k _ H' q⟩) fun _ _ x => x
theorem wo_none {Q : Option Int → Env2 → GD → Prop} (q : Q none r G) : WO X none r G Q := fun F0 T F H σ lk S pins s I => po_none.run pins s σ H _ I ⟨r, G, F, Ex.refl _, S, q⟩
theorem wo_some {Q : Option Int → Env2 → GD → Prop} (h : WE X e r G fun x r1 G1 => ∃ i, vw r1 x = some (.int i) ∧ Q (some i) r1 G1) : WO X (some e) r G Q := fun F0 T F H σ lk S pins s I =>
  (po_some peR).run pins s σ H _ I ((h F0 T F H σ lk S).mono fun v H1 ⟨x, r1, G1, F1, e1, S1, k1, i, q1, q2⟩ => ⟨i, (S1.view k1 q1).int, r1, G1, F1, e1, S1, q2⟩)
def SlW (X : Cy) (d : D) (lo hi : Option Int) (Q : Res → Prop) : Prop :=
  ∀ (F0 T F : Hp) (G : GD) (H : Hp) (r : Env2) (σ : L2.St) (v : V), Sta X.K F0 T F G H r σ → Vw X.K F H d v →
    ∃ rr, L2.SlR X rr ∧ rr v lo hi H (fun v' H' => ∃ x F', Ex F F' ∧ Sta X.K F0 T F' G H' r σ ∧ ResOk X.K T F' G H' r σ x v' ∧ Q x)
def slU (X : Cy) : V → Option Int → Option Int → Hp → VK → Prop := fun x lo hi H Q => ∃ rr, L2.SlR X rr ∧ rr x lo hi H Q
theorem SlR.post {rr : V → Option Int → Option Int → Hp → VK → Prop} (h : L2.SlR X rr) (P : VK) : L2.SlR X (fun x lo hi H Q' => rr x lo hi H P ∧ ∀ v H', P v H' → Q' v H') := fun pins s σ H x v vl vu lo hi sl Q' I rx hs pl pu ⟨q, m⟩ => by
  obtain ⟨T, id, h1, h2, h3⟩ := h pins s σ H x v vl vu lo hi sl P I rx hs pl pu q
  exact ⟨T, id, h1, h2, wpAny_mono h3 (fun _ _ ⟨v, H', I', rl, q⟩ => ⟨v, H', I', rl, m v H' q⟩) fun _ _ x => x⟩
theorem slU_ok : L2.SlR X (slU X) := fun pins s σ H x v vl vu lo hi sl Q I rx hs pl pu ⟨rr, h1, h2⟩ => h1 pins s σ H x v vl vu lo hi sl Q I rx hs pl pu h2
theorem we_slice {lo hi : Option Expr} {p2 : Pos} {Q : Res → Env2 → GD → Prop} (h : WE X a r G fun x r1 G1 => WO X lo r1 G1 fun l r2 G2 => WO X hi r2 G2 fun u r3 G3 => ∃ d, VwR r3 G3 x d ∧ SlW X d l u fun z => Q z r3 G3) :
    WE X (.Subscript a (.Slice lo hi none p2) pos) r G Q := fun F0 T F H σ lk S => Run.of (pe_slice slU_ok peR poR poR) (by
  refine (h F0 T F H σ lk S).mono fun va H1 ⟨x, r1, G1, F1, e1, S1, k1, h1⟩ => ?_
  obtain ⟨F1', e1', S1', hv⟩ := hold S1 k1
  refine (h1 F0 T F1' H1 σ lk S1').mono fun l H2 ⟨r2, G2, F2, e2, S2, h2⟩ => ?_
  refine (h2 F0 T F2 H2 σ lk S2).mono fun u H3 ⟨r3, G3, F3, e3, S3, d, q1, q2⟩ => ?_
  obtain ⟨rr, h3, h4⟩ := q2 F0 T F3 G3 H3 r3 σ va S3 (hv F3 G3 H3 r3 d (e2.trans e3) S3 q1)
  exact ⟨_, SlR.post h3 _, h4, fun v H' ⟨z, F', m1, m2, m3, m4⟩ => ⟨z, r3, G3, F', (((e1.trans e1').trans e2).trans e3).trans m1, m2, m3, m4⟩⟩)
theorem slw_lst {ds : List D} {lo hi : Option Int} (q : Q (.fr (.lst (cutD ds lo hi)))) : SlW X (.lst ds) lo hi Q := fun F0 T F G H r σ v S h => by
  obtain ⟨p, vs, rfl, k1, k2⟩ := h.lst S.bas.fh
  exact ⟨_, sl_list, p, vs, rfl, .inl k1, fun l hl => new_lst S (cut_rep k2 lo hi) hl q⟩
theorem slw_tup {ds : List D} {lo hi : Option Int} (q : Q (.sh (.tup (cutD ds lo hi)))) : SlW X (.tup ds) lo hi Q := fun F0 T F G H r σ v S h => by
  have rp : Rep X.K F (.tup ds) v := by
    rcases h with h | ⟨_, _, h⟩
    · exact h
    · exact h.elim
  obtain ⟨p, vs, rfl, k1, k2⟩ := h.tup S.bas.fh
  refine ⟨_, sl_tupA, p, vs, rfl, k1, fun hw => ?_, fun _ l hl => new_tup S (cut_rep k2 lo hi) hl q⟩
  have ec : cutD ds lo hi = ds := by
    unfold cutD
    rw [← k2.length, hw.1, hw.2]
    simp [k2.length]
  rw [ec] at q
  exact ⟨.sh (.tup ds), F, Ex.refl _, S, rp, q⟩
end
theorem Bas.base {F0 T F : Hp} {G : GD} {H : Hp} {K : PySem.W.Frag} (B : Bas K F0 T F G H) : Bas K F T F G H := ⟨Ex.refl _, fun _ _ h => .inl h, B.fh, B.gh, B.fg, B.gt, B.tk⟩
theorem Bas.back {F0 T F1 : Hp} {G1 : GD} {H1 F : Hp} {G : GD} {H : Hp} {K : PySem.W.Frag} (B : Bas K F0 T F1 G1 H1) (C : Bas K F1 T F G H) : Bas K F0 T F G H :=
  ⟨B.ff.trans C.ff, fun a o h => (C.ft a o h).elim (fun z => B.ft a o z) .inr, C.fh, C.gh, C.fg, C.gt, C.tk⟩
theorem Sta.base {K : PySem.W.Frag} {F0 T F : Hp} {G : GD} {H : Hp} {r : Env2} {σ : L2.St} (S : Sta K F0 T F G H r σ) : Sta K F T F G H r σ := ⟨S.bas.base, S.len, S.sl, S.ap⟩
theorem Sta.back {K : PySem.W.Frag} {F0 T F1 : Hp} {G1 : GD} {H1 F : Hp} {G : GD} {H : Hp} {r : Env2} {σ : L2.St} (B : Bas K F0 T F1 G1 H1) (S : Sta K F1 T F G H r σ) : Sta K F0 T F G H r σ := ⟨B.back S.bas, S.len, S.sl, S.ap⟩
theorem at_back {K : PySem.W.Frag} {F0 T F1 : Hp} {G1 : GD} {H1 : Hp} (B : Bas K F0 T F1 G1 H1) {Q : Env2 → GD → Prop} {σ : L2.St} {H : Hp} (h : PostN K F1 T Q σ H) : PostN K F0 T Q σ H := by
  obtain ⟨r, G, F, S, q⟩ := h
  exact ⟨r, G, F, S.back B, q⟩
theorem rt_back {K : PySem.W.Frag} {F0 T F1 : Hp} {G1 : GD} {H1 : Hp} (B : Bas K F0 T F1 G1 H1) {Q : Res → GD → Prop} {v : V} {H : Hp} (h : PostR K F1 T Q v H) : PostR K F0 T Q v H := by
  obtain ⟨x, G, F, C, k, q⟩ := h
  exact ⟨x, G, F, B.back C, k, q⟩
def RunG (X : Cx) (tg : Expr) : TG := fun v σ H Q => ∀ (pins : List (Addr × Obj)) (s : Shared) (u : Value), Inv X pins σ H s → RelV v u → wpAny (model X.prog X.w) X.A (assign tg X.env u) (fun _ s' => ∃ σ' H', Inv X pins σ' H' s' ∧ Q σ' H') X.xe s
theorem pgR {X : Cx} {tg : Expr} : PG X tg (RunG X tg) := ⟨fun pins s σ H v u Q I rv h => h pins s u I rv⟩
/-- frozen data goes to a target; σ' differs from σ in the slots is alone -/
def WG (X : Cy) (tg : Expr) (d : D) (r : Env2) (G : GD) (is : List Nat) (Q : Env2 → GD → Prop) : Prop :=
  ∀ (F0 T F H : Hp) (σ : L2.St) (v : V), Lk X F0 T → Sta X.K F0 T F G H r σ → Rep X.K F d v → RunG X tg v σ H (fun σ' H' => wipe σ' is = wipe σ is ∧ ∃ r' G' F', Ex F F' ∧ Sta X.K F0 T F' G' H' r' σ' ∧ Q r' G')
theorem wipe_set {σ : L2.St} {i : Nat} {x : Option V} : ∀ {is : List Nat}, i ∈ is → wipe (σ.set i x) is = wipe σ is
  | [], h => by simp at h
  | j :: is, h => by
    unfold wipe
    by_cases hm : i ∈ is
    · rw [wipe_set hm]
    · have hj : i = j := by
        rcases List.mem_cons.mp h with z | z
        · exact z
        · exact absurd z hm
      subst hj
      have aux : ∀ (is : List Nat), i ∉ is → wipe (σ.set i x) is = (wipe σ is).set i x := by
        intro is
        induction is with
        | nil => intro _; rfl
        | cons k is ih =>
          intro hk
          unfold wipe
          rw [ih (fun z => hk (List.mem_cons_of_mem _ z)), List.set_comm _ _ (fun z => hk (by rw [z]; exact List.mem_cons_self))]
      rw [aux is hm, List.set_set]
section
variable {X : Cy} {e a b c o tg : Expr} {es : List Expr} {st : Stmt} {sts rest body orelse : List Stmt} {r : Env2} {G : GD} {pos p0 : Pos} {D0 : EndsD}
theorem wg_name (i : Nat) {x : Str} {d : D} {is : List Nat} {Q : Env2 → GD → Prop} (hN : X.N.Nodup) (hi : X.N[i]? = some x) (hx : Loc X.env.scope x) (hm : i ∈ is) (hl : i < r.length) (q : Q (r.set i (.sh d)) G) (hf : X.fn x = true ∨ X.env.scope.names.lookup x = some .local := by first | exact .inl rfl | exact .inr rfl | assumption) :
    WG X (.Name x pos) d r G is Q := fun F0 T F H σ v lk S rp pins s u I rv => by
  refine (pg_name hN hi hx hf).run pins s σ H v u _ I rv ⟨wipe_set hm, r.set i (.sh d), G, F, Ex.refl _, S.set hl ⟨v, rfl, rp⟩ (fun d' z => nomatch z), q⟩
theorem fold_wipe : ∀ (ixs : List Nat) (vs : List V) (σ : L2.St) {is : List Nat}, (∀ i ∈ ixs, i ∈ is) → wipe ((ixs.zip vs).foldl (fun s p => s.set p.1 (some p.2)) σ) is = wipe σ is
  | [], _, _, _, _ => by simp
  | _ :: _, [], _, _, _ => by simp
  | i :: ixs, v :: vs, σ, is, h => by
    rw [List.zip_cons_cons, List.foldl_cons, fold_wipe ixs vs _ fun j hj => h j (List.mem_cons_of_mem _ hj)]
    exact wipe_set (h i List.mem_cons_self)
theorem wg_tup {ts : List Expr} {k : Nat} (ixs : List Nat) {ds : List D} {is : List Nat} {Q : Env2 → GD → Prop} (hc : X.calm = true) (hp : All2 (fun t i => PG X t (gName i)) ts ixs) (hst : ∀ t ∈ ts, ∀ us, (assignEach (t :: us) X.env).map (·.2) = assign t X.env :: (assignEach us X.env).map (·.2))
    (hm : ∀ i ∈ ixs, i ∈ is) (hl : ds.length = ixs.length) (hr : ∀ i ∈ ixs, i < r.length) (q : Q (setAll r ixs ds) G) (hn : (assignEach ts X.env).length = ixs.length := by rfl) (hf : (assignEach ts X.env).findIdx? (·.1) = none := by rfl) :
    WG X (.Tuple ts k pos) (.tup ds) r G is Q := fun F0 T F H σ v lk S rp pins s u I rv => by
  obtain ⟨a, vs, rfl, z1, z2⟩ := rp
  refine (pg_tup hc (pgs_run hp hst) hn hf).run pins s σ H _ u _ I rv ⟨a, vs, rfl, S.bas.fh.sqT z1, by rw [z2.length]; exact hl, by rw [z2.length]; exact hl, fold_wipe ixs vs σ hm, _, G, F, Ex.refl _, S.setAll ixs ds vs z2 hl.symm hr, q⟩
/-- a turn of a loop: the item goes to the target, the body runs -/
theorem turn1 {d : D} {v : V} {is : List Nat} {F0 T Fa : Hp} {Ga : GD} {Ha F H : Hp} {σ : L2.St} {I : Env2 → GD → Prop} (lk : Lk X F0 T) (B : Bas X.K F0 T Fa Ga Ha) (S : Sta X.K Fa T F G H r σ) (rp : Rep X.K F d v) (h : WG X tg d r G is fun r1 G1 => WB X body r1 G1 { D0 with nx := I, ct := I, bk := D0.nx }) {P : L2.St → Hp → Prop}
    (hP : ∀ σ' H', PostN X.K Fa T I σ' H' → P σ' H') : RunG X tg v σ H fun σ2 H2 => RunB X body { D0.at X.K F0 T with nx := P, ct := P, bk := (D0.at X.K F0 T).nx } σ2 H2 := fun pins s u J rv => by
  refine wpAny_mono (h Fa T F H σ v (lk.base B) S rp pins s u J rv) (fun _ s' ⟨σ', H', J', _, r', G', F', e', S', q⟩ => ⟨σ', H', J', ?_⟩) fun _ _ x => x
  exact (q Fa T F' H' σ' (lk.base B) S').mono hP (fun v H z => rt_back B z) (fun σ H z => at_back B z) hP
/-- J yields the data ds, while what is frozen at Fa stays -/
def ItD (K : PySem.W.Frag) (J : It) (Fa : Hp) (ds : List D) : Prop := ∀ (F H : Hp), Ex Fa F → Ex F H → J.stop ds.length H ∧ ∀ (i : Nat) (d : D), ds[i]? = some d → J.go i H ∧ ∀ x H', J.yld i H x H' →
  (H' = H ∧ Rep K F d x) ∨ ∃ p o, H p = none ∧ H' = upd H p o ∧ x = .ref p ∧ Rep K (upd F p o) d (.ref p)
theorem ItD.mono {K : PySem.W.Frag} {J : It} {F F' : Hp} {ds : List D} (e : Ex F F') (h : ItD K J F ds) : ItD K J F' ds := fun F2 H e1 e2 => h F2 H (e.trans e1) e2
/-- a yielded item, over a state -/
theorem ItD.item {K : PySem.W.Frag} {J : It} {Fa F0 T F : Hp} {G : GD} {H H' : Hp} {r : Env2} {σ : L2.St} {ds : List D} {i : Nat} {d : D} {x : V} (h : ItD K J Fa ds) (ea : Ex Fa F) (S : Sta K F0 T F G H r σ) (hi : ds[i]? = some d) (y : J.yld i H x H') :
    ∃ F', Ex F F' ∧ Sta K F0 T F' G H' r σ ∧ Rep K F' d x := by
  obtain ⟨_, h2⟩ := h F H ea S.bas.fh
  rcases (h2 i d hi).2 x H' y with ⟨rfl, rp⟩ | ⟨p, o, hp, rfl, rfl, rp⟩
  · exact ⟨F, Ex.refl _, S, rp⟩
  · exact ⟨upd F p o, Ex.new (S.bas.freshF hp).1, S.newF hp, rp⟩
def RunI (X : Cx) (tg e : Expr) : TI := fun σ H R => ∀ (pins : List (Addr × Obj)) (s : Shared), Inv X pins σ H s → wpAny (model X.prog X.w) X.A (eval e X.env) (fun v s1 => wpAny (model X.prog X.w) X.A (pyIter v) (PIE X pins σ tg R) X.xe s1) X.xe s
theorem piR {X : Cx} {tg e : Expr} : PI X tg e (RunI X tg e) := ⟨fun pins s _ _ _ I h => h pins s I⟩
theorem RunI.of {X : Cx} {tg e : Expr} {wi : TI} {σ : L2.St} {H : Hp} {R : It → Hp → Prop} (h : PI X tg e wi) (q : wi σ H R) : RunI X tg e σ H R := fun pins s I => h.run pins s σ H R I q
theorem RunI.mono {X : Cx} {tg e : Expr} {σ : L2.St} {H : Hp} {R R' : It → Hp → Prop} (h : RunI X tg e σ H R) (k : ∀ J H', R J H' → R' J H') : RunI X tg e σ H R' := fun pins s I =>
  wpAny_mono (h pins s I) (fun _ _ q => wpAny_mono q (fun _ _ ⟨it, fp, tn, J, H', a, b, c, d, e, f⟩ => ⟨it, fp, tn, J, H', a, b, c, d, e, k _ _ f⟩) fun _ _ x => x) fun _ _ x => x
/-- the iterable e yields data -/
def WI (X : Cy) (tg e : Expr) (r : Env2) (G : GD) (Q : List D → Env2 → GD → Prop) : Prop :=
  ∀ (F0 T F H : Hp) (σ : L2.St), Lk X F0 T → Sta X.K F0 T F G H r σ → RunI X tg e σ H fun J H' => ∃ ds r' G' F', Ex F F' ∧ Sta X.K F0 T F' G' H' r' σ ∧ ItD X.K J F' ds ∧ Q ds r' G'
theorem WI.mono {Q Q' : List D → Env2 → GD → Prop} (h : WI X tg e r G Q) (k : ∀ x r' G', Q x r' G' → Q' x r' G') : WI X tg e r G Q' := fun F0 T F H σ lk S =>
  (h F0 T F H σ lk S).mono fun _ _ ⟨x, r', G', F', a, b, c, q⟩ => ⟨x, r', G', F', a, b, c, k _ _ _ q⟩
theorem wi_lst {Q : List D → Env2 → GD → Prop} (h : WE X e r G fun x r1 G1 => ∃ ds r2, fz r1 x = some (.lst ds, r2) ∧ (ds.length ≤ LIM → Q ds r2 G1)) : WI X tg e r G Q := fun F0 T F H σ lk S =>
  RunI.of (pi_list peR) ((h F0 T F H σ lk S).bl.mono fun v H1 ⟨bl, x, r1, G1, F1, e1, S1, k1, ds, r2, q1, q2⟩ => by
    obtain ⟨Fa, e2, Sa, rp⟩ := S1.fz k1 q1
    obtain ⟨a, vs, rfl, z1, z2⟩ := rp
    have hlim : ds.length ≤ LIM := by rw [← z2.length]; exact bl.1 a vs (.inl (Sa.bas.fh.rd z1))
    refine ⟨a, rfl, ⟨vs, .inl (Sa.bas.fh.rd z1)⟩, ds, r2, G1, Fa, e1.trans e2, Sa, fun F H ea eh => ⟨⟨vs, .inl (eh.rd (ea.rd z1)), by rw [z2.length]; exact Nat.le_refl _⟩, fun i d hi => ?_⟩, q2 hlim⟩
    obtain ⟨v, h1, h2⟩ := z2.get hi
    exact ⟨⟨vs, v, .inl (eh.rd (ea.rd z1)), h1⟩, fun x H' ⟨y1, y2⟩ => .inl ⟨y1, by
      have := y2 vs (.inl (eh.rd (ea.rd z1)))
      rw [h1] at this; cases this
      exact Rep.mono ea _ _ h2⟩⟩)
theorem wi_tup {Q : List D → Env2 → GD → Prop} (h : WE X e r G fun x r1 G1 => ∃ ds r2, fz r1 x = some (.tup ds, r2) ∧ (ds.length ≤ LIM → Q ds r2 G1)) : WI X tg e r G Q := fun F0 T F H σ lk S =>
  RunI.of (pi_tup peR) ((h F0 T F H σ lk S).bl.mono fun v H1 ⟨bl, x, r1, G1, F1, e1, S1, k1, ds, r2, q1, q2⟩ => by
    obtain ⟨Fa, e2, Sa, rp⟩ := S1.fz k1 q1
    obtain ⟨a, vs, rfl, z1, z2⟩ := rp
    have hlim : ds.length ≤ LIM := by rw [← z2.length]; exact bl.2.1 a vs (Sa.bas.fh.sqT z1)
    refine ⟨a, rfl, ⟨vs, Sa.bas.fh.sqT z1⟩, ds, r2, G1, Fa, e1.trans e2, Sa, fun F H ea eh => ⟨⟨vs, eh.sqT (ea.sqT z1), by rw [z2.length]; exact Nat.le_refl _⟩, fun i d hi => ?_⟩, q2 hlim⟩
    obtain ⟨v, h1, h2⟩ := z2.get hi
    exact ⟨⟨vs, v, eh.sqT (ea.sqT z1), h1⟩, fun x H' ⟨y1, y2⟩ => .inl ⟨y1, by
      have := y2 vs (eh.sqT (ea.sqT z1))
      rw [h1] at this; cases this
      exact Rep.mono ea _ _ h2⟩⟩)
def rgI (a b : Int) : List Int := (List.range (b - a).toNat).map fun i => a + (i : Nat)
theorem rgI_length (a b : Int) : (rgI a b).length = (b - a).toNat := by unfold rgI; rw [List.length_map, List.length_range]
theorem rgI_get {a b : Int} {i : Nat} {x : Int} (h : (rgI a b)[i]? = some x) : i < (b - a).toNat ∧ x = a + (i : Nat) := by
  unfold rgI at h
  rw [List.getElem?_map] at h
  cases q : (List.range (b - a).toNat)[i]? with
  | none => rw [q] at h; cases h
  | some j =>
    rw [q] at h
    obtain ⟨z1, z2⟩ := List.getElem?_eq_some_iff.mp q
    rw [List.length_range] at z1
    rw [List.getElem_range] at z2
    subst z2
    exact ⟨z1, by simpa using h.symm⟩
theorem itd_range {K : PySem.W.Frag} {Fa : Hp} {lo hi : Int} {n : Nat} (hn : n = (hi - lo).toNat) : ItD K (Itr lo n) Fa ((rgI lo hi).map D.int) := fun F H ea eh =>
  ⟨by rw [List.length_map, rgI_length, ← hn]; exact Nat.le_refl _, fun i d hd => by
    rw [List.getElem?_map] at hd
    cases q : (rgI lo hi)[i]? with
    | none => rw [q] at hd; cases hd
    | some x =>
      rw [q] at hd
      obtain ⟨z1, rfl⟩ := rgI_get q
      cases hd
      exact ⟨by rw [hn]; exact z1, fun y H' ⟨y1, y2⟩ => .inl ⟨y1, y2⟩⟩⟩
abbrev RG (n : Int) : Prop := -(2 ^ 62) ≤ n ∧ n < 2 ^ 62
theorem wi_rng1 {Q : List D → Env2 → GD → Prop} (hg : Gl X "range") (hm : X.mg "range" = none)
    (h : WE X a r G fun x r1 G1 => ∃ n, vw r1 x = some (.int n) ∧ RG n ∧ Q ((rgI 0 n).map D.int) r1 G1) (hst : starEach [a] X.env = [(false, eval a X.env)] := by rfl) : WI X tg (.Call (.Name "range" p0) [a] [] pos) r G Q := fun F0 T F H σ lk S =>
  RunI.of (pi_range1 hg hm (pa_cons peR pa_nil hst) hst) ((h F0 T F H σ lk S).mono fun v H1 ⟨x, r1, G1, F1, e1, S1, k1, n, q1, hn, q2⟩ =>
    ⟨n, by rw [(S1.view k1 q1).int], hn.1, hn.2, _, r1, G1, F1, e1, S1, itd_range (by rw [Int.sub_zero]), q2⟩)
theorem wi_rng2 {Q : List D → Env2 → GD → Prop} (hg : Gl X "range") (hm : X.mg "range" = none)
    (h : WE X a r G fun x r1 G1 => WE X b r1 G1 fun y r2 G2 => ∃ lo n, vw r2 x = some (.int lo) ∧ vw r2 y = some (.int n) ∧ RG lo ∧ RG n ∧ Q ((rgI lo n).map D.int) r2 G2)
    (hst : starEach [a, b] X.env = [(false, eval a X.env), (false, eval b X.env)] := by rfl) (hst2 : starEach [b] X.env = [(false, eval b X.env)] := by rfl) : WI X tg (.Call (.Name "range" p0) [a, b] [] pos) r G Q := fun F0 T F H σ lk S =>
  RunI.of (pi_range2 hg hm (pa_cons peR (pa_cons peR pa_nil (by rw [hst2]; rfl)) (by rw [hst, hst2])) hst hst2) ((h F0 T F H σ lk S).mono fun v H1 ⟨x, r1, G1, F1, e1, S1, k1, h1⟩ => by
    obtain ⟨F1', e1', S1', hv⟩ := hold S1 k1
    refine (h1 F0 T F1' H1 σ lk S1').mono fun v2 H2 ⟨y, r2, G2, F2, e2, S2, k2, lo, n, q1, q2, hl, hn, q3⟩ => ?_
    exact ⟨lo, n, by rw [(hv F2 G2 H2 r2 _ e2 S2 (.inl q1)).int, (S2.view k2 q2).int], ⟨hl.1, hl.2, hn.1, hn.2⟩, _, r2, G2, F2, (e1.trans e1').trans e2, S2, itd_range rfl, q3⟩)
theorem ws_for {is : List Nat} (hp : PassesOwn (model X.prog X.w) X.A X.env X.xe) (hc : X.calm = true)
    (h : WI X tg e r G fun ds r2 G1 => ∃ I : Nat → Env2 → GD → Prop, I 0 r2 G1 ∧ (∀ (k : Nat) (d : D) (r3 : Env2) (G3 : GD), ds[k]? = some d → I k r3 G3 → WG X tg d r3 G3 is fun r4 G4 => WB X body r4 G4 { D0 with nx := I (k + 1), ct := I (k + 1), bk := D0.nx }) ∧
      ∀ r3 G3, I ds.length r3 G3 → D0.nx r3 G3) (hs : ∀ x, foldedSetIterable e X.env x = pure x := by intro _; rfl) : WS X (.For tg e body [] pos) r G D0 := fun F0 T F H σ lk S =>
  RunS.of (ps_for hp hc piR pgR pbR hs) ((h F0 T F H σ lk S).mono fun J H1 ⟨ds, r2, G1, Fa, e1, Sa, hJ, I, i0, it, ie⟩ => by
    refine ⟨fun i m σ' H' => m = ds.length - i ∧ i ≤ ds.length ∧ PostN X.K Fa T (I i) σ' H', ⟨ds.length, by simp, Nat.zero_le _, r2, G1, Fa, Sa.base, i0⟩, ?_⟩
    rintro i m σ' H' ⟨rfl, hi, r', G', F', S', q'⟩
    obtain ⟨j1, j2⟩ := hJ F' H' S'.bas.ff S'.bas.fh
    by_cases hlt : i < ds.length
    · obtain ⟨j3, _⟩ := j2 i ds[i] (List.getElem?_eq_getElem hlt)
      refine .inr ⟨j3, fun σ' H' => PostN X.K Fa T (I (i + 1)) σ' H', fun σ2 H2 p2 => ⟨ds.length - (i + 1), by omega, rfl, hlt, p2⟩, fun x H2 y => ?_⟩
      obtain ⟨F2, ef, S2, rp⟩ := hJ.item S'.bas.ff S' (List.getElem?_eq_getElem hlt) y
      exact turn1 lk Sa.bas S2 rp (it i ds[i] r' G' (List.getElem?_eq_getElem hlt) q') fun _ _ z => z
    · have e : i = ds.length := by omega
      subst e
      exact .inl ⟨j1, at_back Sa.bas ⟨r', G', F', S', ie r' G' q'⟩⟩)
abbrev FSp := List D → GD → (Res → GD → Prop) → (Exn → GD → Prop) → Prop
/-- what others hold at a call -/
def Tof (G : GD) (H : Hp) : Hp := fun a => match G a with
  | none => H a
  | some _ => none
theorem Tof_none {G : GD} {H : Hp} {a : Addr} (h : G a = none) : Tof G H a = H a := by unfold Tof; rw [h]
theorem Tof_some {G : GD} {H : Hp} {a : Addr} {o : D} (h : G a = some o) : Tof G H a = none := by unfold Tof; rw [h]
/-- a def's promise over data -/
def spD (K : PySem.W.Frag) (f : FSp) : Sp := fun vs H Q E => ∃ (F : Hp) (G : GD) (ds : List D) (post : Res → GD → Prop) (px : Exn → GD → Prop), Ex F H ∧ (∀ a d, G a = some d → Own K F H a d) ∧ (∀ a o, G a = some o → F a = none) ∧ RepL K F ds vs ∧ f ds G post px ∧
  (∀ x G' v H' F', post x G' → Bas K F (Tof G H) F' G' H' → RtOk K (Tof G H) F' G' H' x v → Q v H') ∧ ∀ x cls d G' H' F', px x G' → Bas K F (Tof G H) F' G' H' → ExOk K F' cls d x → E cls d H'
/-- behind a call the caller's state stands -/
theorem Sta.after {K : PySem.W.Frag} {F0 T F : Hp} {G : GD} {H F' : Hp} {G' : GD} {H' : Hp} {r : Env2} {σ : L2.St} (S : Sta K F0 T F G H r σ) (B : Bas K F (Tof G H) F' G' H') : Sta K F0 T F' G' H' r σ := by
  have tt : ∀ a o, T a = some o → Tof G H a = some o := fun a o h => by
    have hg : G a = none := by
      cases e : G a with
      | none => rfl
      | some u => rw [S.bas.gt a u e] at h; cases h
    rw [Tof_none hg]
    exact S.bas.tk a o h
  refine S.grow ⟨S.bas.ff.trans B.ff, fun a o h => ?_, B.fh, B.gh, B.fg, fun a o h => ?_, fun a o h => B.tk a o (tt a o h)⟩ B.ff fun p h1 h2 h3 ⟨u, hu⟩ => ?_
  · rcases B.ft a o h with z | z
    · exact S.bas.ft a o z
    · cases e : T a with
      | none => exact .inr rfl
      | some u => rw [tt a u e] at z; cases z
  · cases e : T a with
    | none => rfl
    | some u =>
      have z := B.gt a o h
      rw [tt a u e] at z; cases z
  · have hT : Tof G H p = some u := by rw [Tof_none h2]; exact hu
    refine ⟨fun o ho => by rw [hu] at ho; cases ho; exact B.tk p u hT, ?_, ?_, h3⟩
    · cases e : F' p with
      | none => rfl
      | some w =>
        rcases B.ft p w e with z | z
        · rw [h1] at z; cases z
        · rw [hT] at z; cases z
    · cases e : G' p with
      | none => rfl
      | some w => have z := B.gt p w e; rw [hT] at z; cases z
theorem ResOk.after {K : PySem.W.Frag} {F0 T F : Hp} {G : GD} {H F' : Hp} {G' : GD} {H' : Hp} {r : Env2} {σ : L2.St} {x : Res} {v : V} (S : Sta K F0 T F G H r σ) (B : Bas K F (Tof G H) F' G' H') (h : RtOk K (Tof G H) F' G' H' x v) : ResOk K T F' G' H' r σ x v := by
  cases x with
  | sh d => exact h
  | pk i => exact h.elim
  | fr d =>
    obtain ⟨p, rfl, h2, h3, h4, h5⟩ := h
    refine ⟨p, rfl, h2, h3, h4, ?_, fun i e he z => ?_⟩
    · cases e : T p with
      | none => rfl
      | some u =>
        have hg : G p = none := by
          cases eg : G p with
          | none => rfl
          | some w => rw [S.bas.gt p w eg] at e; cases e
        rw [Tof_none hg, S.bas.tk p u e] at h5; cases h5
    · obtain ⟨q, z1, z2, z3, z4, z5⟩ := S.ownS he
      rw [z] at z1; cases z1
      obtain ⟨o, ho⟩ := z2.there
      rw [Tof_none z4, ho] at h5; cases h5
/-- a promise met from a state -/
theorem spD_of {F0 T F F1 H : Hp} {σ : L2.St} {sp : FSp} {ds : List D} {vs : List V} {Q : Res → Env2 → GD → Prop} (lk : Lk X F0 T) (S : Sta X.K F0 T F1 G H r σ) (e1 : Ex F F1) (ha : RepL X.K F1 ds vs) (h : sp ds G (fun z G2 => Q z r G2) (fun x G2 => X.QX x r G2)) : spD X.K sp vs H (PostE X.K F0 T F σ Q) (L2.WE X.WX σ) :=
  ⟨F1, G, ds, _, _, S.bas.fh, S.bas.gh, S.bas.fg, ha, h, fun x G' v H' F' hp B rt => ⟨x, r, G', F', e1.trans B.ff, S.after B, ResOk.after S B rt, hp⟩, fun x cls d G' H' F' hp B ex => ⟨r, G', F', x, lk.sta (S.after B), ex, hp⟩⟩
theorem we_call {f : Addr} {fd : FuncData} {ps : List Str} {sp : FSp} {k : Nat} {x : Str} {Q : Res → Env2 → GD → Prop} (tk : X.Tk) (Fo : FnOk X.prog X.w X.K X.mg X.base (CX X.prog X.w) k f fd ps (spD X.K sp)) (hr : Room k X.A) (hg : Gl X x) (hm : X.mg x = some (.ref f)) (hk : PySem.W.keepIn X.K (.ref f) = true) (hb : Binds X.K fd ps [])
    (h : WA X (e :: es) r G fun ds r1 G1 => sp ds G1 (fun z G2 => Q z r1 G2) (fun x G2 => X.QX x r1 G2))
    (hdb : (x == ("__debug__" : Str)) = false := by decide) (he : starEach (e :: es) X.env = (false, eval e X.env) :: starEach es X.env := by rfl) (hpl : (backTo pos (starEach es X.env)).any (·.1) = false := by rfl) : WE X (.Call (.Name x p0) (e :: es) [] pos) r G Q := fun F0 T F H σ lk S =>
  Run.of (pe_callS Fo hr hg hm hk hb (fun σ => passAt tk σ) paR hdb he hpl) ((h F0 T F H σ lk S).mono fun vs H1 ⟨ds, r1, G1, F1, e1, S1, k1, q⟩ => spD_of lk S1 e1 k1 q)
end
def startD (N : List Str) (ds : List D) : Env2 := ds.map .sh ++ List.replicate (N.length - ds.length) .no
theorem sta_start {K : PySem.W.Frag} {F : Hp} {G : GD} {H : Hp} {N : List Str} {ds : List D} {vs : List V} (hl : ds.length ≤ N.length) (e1 : Ex F H) (e2 : ∀ a d, G a = some d → Own K F H a d) (e3 : ∀ a o, G a = some o → F a = none) (h : RepL K F ds vs) : Sta K F (Tof G H) F G H (startD N ds) (L2.start N vs) := by
  have hv := h.length
  refine ⟨⟨Ex.refl _, fun _ _ z => .inl z, e1, e2, e3, fun a o z => Tof_some z, fun a o z => ?_⟩, ?_, fun i s z => ?_, fun i j d e _ z => ?_⟩
  · unfold Tof at z
    split at z
    · exact z
    · cases z
  · unfold startD L2.start
    simp only [List.length_append, List.length_map, List.length_replicate, hv]
  · unfold startD at z
    by_cases hi : i < ds.length
    · rw [List.getElem?_append_left (by simpa using hi), List.getElem?_map, List.getElem?_eq_getElem hi] at z
      cases z
      obtain ⟨v, q1, q2⟩ := h.get (List.getElem?_eq_getElem hi)
      refine ⟨v, ?_, q2⟩
      unfold L2.start
      rw [List.getElem?_append_left (by rw [List.length_map, hv]; exact hi), List.getElem?_map, q1]
      rfl
    · rw [List.getElem?_append_right (by simpa using hi), List.getElem?_replicate] at z
      split at z
      · cases z; trivial
      · cases z
  · exfalso
    unfold startD at z
    by_cases hi : i < ds.length
    · rw [List.getElem?_append_left (by simpa using hi), List.getElem?_map, List.getElem?_eq_getElem hi] at z
      cases z
    · rw [List.getElem?_append_right (by simpa using hi), List.getElem?_replicate] at z
      split at z
      · cases z
      · cases z
section
variable {P : Program} {w : World} {K : PySem.W.Frag} {mg : Str → Option Value} {base : Heap}
/-- the context of a def's body -/
def cyOf (P : Program) (w : World) (K : PySem.W.Frag) (mg : Str → Option Value) (base : Heap) (N : List Str) (qual : Str) (scope : Scope) (f : Addr) (cd : Value) (A : Around) (outer : List Env) (s : Shared) (H : Hp) (E : XK) (F T : Hp) (px : Exn → GD → Prop) : Cy :=
  { L2.cxOf (L2.CX P w) P w K mg base N qual scope f cd A outer s H E with F0 := F, T := T, QX := fun x _ G => px x G }
theorem def_ok {x qual : Str} {st : Stmt} {f : Addr} {fd : FuncData} {N ps : List Str} {k : Nat} {sp : FSp} (Fo : Fun K x qual st f fd) (S : FnScope N ps (defScope st)) (len : ∀ ds G post px, sp ds G post px → ds.length = ps.length)
    (hbody : ∀ (cdv : Value) (A : Around) (outer : List Env) (s : Shared) (H : Hp) (E : XK) (F T : Hp), Room k (A.deeper (envOfC qual (defScope st) s.heap.objs.size f cdv)) → ∀ (ds : List D) (G : GD) (post : Res → GD → Prop) (px : Exn → GD → Prop), sp ds G post px →
      (cyOf P w K mg base N qual (defScope st) f cdv A outer s H E F T px).Tk → PassesOwn (model P w) (cyOf P w K mg base N qual (defScope st) f cdv A outer s H E F T px).A (cyOf P w K mg base N qual (defScope st) f cdv A outer s H E F T px).env (cyOf P w K mg base N qual (defScope st) f cdv A outer s H E F T px).xe →
      WB (cyOf P w K mg base N qual (defScope st) f cdv A outer s H E F T px) (defBody st) (startD N ds) G { nx := fun _ G' => post (.sh .non) G', rt := post }) : FnOk P w K mg base (L2.CX P w) (k + 1) f fd ps (spD K sp) := by
  refine Fo.okX S (fun vs H Q E h => ?_) (fun cdv A outer s H vs Q E hr h => ?_)
  · obtain ⟨F, G, ds, post, px, _, _, _, rp, hf, _⟩ := h
    rw [rp.length, len ds G post px hf]
  · obtain ⟨F, G, ds, post, px, e1, e2, e3, rp, hf, hq, hx⟩ := h
    have hl : ds.length ≤ N.length := by
      rw [len ds G post px hf]
      have := congrArg List.length S.pre
      rw [List.length_take] at this
      omega
    refine ⟨RunB _ (defBody st), pbR, ?_⟩
    have tk : (cyOf P w K mg base N qual (defScope st) f cdv A outer s H E F (Tof G H) px).Tk := (takes_of (E := E) rfl rfl rfl rfl).imp fun cls d σ H' ⟨r, G', F', x, S', ex, q⟩ => hx x cls d G' H' F' q S'.bas ex
    refine (hbody cdv A outer s H E F (Tof G H) hr ds G post px hf tk (passes_of rfl) F (Tof G H) F H (L2.start N vs) ⟨Ex.refl _, Ex.refl _, fun _ _ z => .inl z⟩ (sta_start hl e1 e2 e3 rp)).mono (fun σ' H' ⟨r', G', F', S', q⟩ => ?_) (fun v H' ⟨x, G', F', B, rt, q⟩ => hq x G' v H' F' q B rt) (fun _ _ ⟨_, _, _, _, q⟩ => q) (fun _ _ ⟨_, _, _, _, q⟩ => q)
    exact hq (.sh .non) G' .non H' F' q S'.bas rfl
end
theorem Sta.mut {K : PySem.W.Frag} {F0 T F : Hp} {G : GD} {H : Hp} {r : Env2} {σ : L2.St} (S : Sta K F0 T F G H r σ) {i : Nat} {d0 : D} (h : r[i]? = some (.own d0)) :
    ∃ p, σ[i]? = some (some (.ref p)) ∧ Own K F H p d0 ∧ F p = none ∧ ∀ (o' : HO) (d' : D), Own K F (upd H p o') p d' → Sta K F0 T F G (upd H p o') (r.set i (.own d')) σ := by
  obtain ⟨p, h1, h2, h3, h4, h5⟩ := S.ownS h
  have hi : i < r.length := (List.getElem?_eq_some_iff.mp h).1
  refine ⟨p, h1, h2, h3, fun o' d' ho => ⟨S.bas.put h3 h4 h5, by rw [List.length_set]; exact S.len, fun j s e => ?_, fun j k d e hjk ej ek => ?_⟩⟩
  · by_cases hj : i = j
    · subst hj
      rw [List.getElem?_set_self hi] at e
      cases e
      exact ⟨p, h1, ho, h3, h4, h5⟩
    · rw [List.getElem?_set_ne hj] at e
      have q := S.sl j s e
      cases s with
      | no => trivial
      | sh d => exact q
      | own d =>
        obtain ⟨p', q1, q2, q3, q4, q5⟩ := q
        have hpp : p' ≠ p := fun z => by
          subst z
          exact S.ap i j d0 d hj h e (h1.trans q1.symm)
        exact ⟨p', q1, q2.mono (Ex.refl _) fun u hu => by rw [upd_ne hpp]; exact hu, q3, q4, q5⟩
  · have own : ∀ (m : Nat) (x : D), (r.set i (.own d'))[m]? = some (.own x) → ∃ y, r[m]? = some (.own y) := fun m x hm => by
      by_cases hm2 : i = m
      · subst hm2; exact ⟨d0, h⟩
      · rw [List.getElem?_set_ne hm2] at hm; exact ⟨x, hm⟩
    obtain ⟨y1, hy1⟩ := own j d ej
    obtain ⟨y2, hy2⟩ := own k e ek
    exact S.ap j k y1 y2 hjk hy1 hy2
section
variable {X : Cy} {e e2 a b c o tg : Expr} {es : List Expr} {st : Stmt} {sts rest body orelse : List Stmt} {r : Env2} {G : GD} {pos apos cpos p0 : Pos} {D0 : EndsD}
/-- what a method does to an own list: the answer, the new content -/
def MutW (X : Cy) (id : String) (ds args : List D) (Kt : D → List D → Prop) : Prop :=
  ∀ (F H : Hp) (p : Addr) (vs us : List V), H p = some (.lst vs) → F p = none → Ex F H → RepL X.K F ds vs → RepL X.K F args us →
    ∃ rr, MtR X id rr ∧ rr (.ref p) us H (fun v' H' => ∃ vs' res ds', H' = upd H p (.lst vs') ∧ Rep X.K F res v' ∧ RepL X.K F ds' vs' ∧ Kt res ds')
def mtU (X : Cy) (id : String) : V → List V → Hp → VK → Prop := fun x xs H Q => ∃ rr, MtR X id rr ∧ rr x xs H Q
theorem mtU_ok {id : String} : MtR X id (mtU X id) := fun pins s σ H x xs v us Q I rx rv ⟨rr, h1, h2⟩ => h1 pins s σ H x xs v us Q I rx rv h2
theorem MtR.post {id : String} {rr : V → List V → Hp → VK → Prop} (h : MtR X id rr) (P : VK) : MtR X id (fun x xs H Q' => rr x xs H P ∧ ∀ v H', P v H' → Q' v H') := fun pins s σ H x xs v us Q' I rx rv ⟨q, m⟩ =>
  wpAny_mono (h pins s σ H x xs v us P I rx rv q) (fun _ _ ⟨v, H', I', rl, q⟩ => ⟨v, H', I', rl, m v H' q⟩) fun _ _ x => x
theorem mut_end {id : String} {ds args : List D} {i : Nat} {F0 T F F1 H : Hp} {σ : L2.St} {v : V} {us : List V} {Q : Res → Env2 → GD → Prop} (e1 : Ex F F1) (S : Sta X.K F0 T F1 G H r σ) (hi : r[i]? = some (.own (.lst ds))) (hv : σ[i]? = some (some v)) (ha : RepL X.K F1 args us)
    (h : MutW X id ds args fun res ds' => Q (.sh res) (r.set i (.own (.lst ds'))) G) : mtU X id v us H (PostE X.K F0 T F σ Q) := by
  obtain ⟨p, h1, ⟨vs, h2, h3⟩, h4, h5⟩ := S.mut hi
  rw [hv] at h1; cases h1
  obtain ⟨rr, k1, k2⟩ := h F1 H p vs us h2 h4 S.bas.fh h3 ha
  refine ⟨_, MtR.post k1 _, k2, fun v' H' ⟨vs', res, ds', z1, z2, z3, z4⟩ => ?_⟩
  subst z1
  exact ⟨.sh res, _, G, F1, e1, h5 _ (.lst ds') ⟨vs', upd_same, z3⟩, z2, z4⟩
theorem we_m1 {name : Str} {id : String} {Q : Res → Env2 → GD → Prop} (pa : PlainAttrs "list") (slot : Slot "list" name id) (hty : typeOf (.builtin id) = pure (.type "method_descriptor"))
    (h : WE X o r G fun x r1 G1 => ∃ i ds0, x = .pk i ∧ r1[i]? = some (.own (.lst ds0)) ∧ WE X e r1 G1 fun y r2 G2 => ∃ d r3 ds, fz r2 y = some (d, r3) ∧ r3[i]? = some (.own (.lst ds)) ∧ MutW X id ds [d] fun res ds' => Q (.sh res) (r3.set i (.own (.lst ds'))) G2)
    (hbase : attributeBase o name X.env (eval o X.env) = eval o X.env := by rfl)
    (hfew : ((backTo cpos (starEach [e] X.env)).all (fun x => !x.1) && (backToKw cpos (keywordEach [] X.env)).all (fun x => x.1.isSome) && decide (([e] : List Expr).length + ([] : List Keyword).length + (if ([] : List Keyword).isEmpty then 0 else 1) < 30)) = true := by rfl)
    (hline : (apos.endLine == cpos.line) = true := by rfl) (hs : starEach [e] X.env = (false, eval e X.env) :: starEach [] X.env := by rfl) (hplain : (backTo cpos (starEach [] X.env)).any (·.1) = false := by rfl) :
    WE X (.Call (.Attribute o name apos) [e] [] cpos) r G Q := fun F0 T F H σ lk S =>
  Run.of (pe_bm pa slot hty mtU_ok peR (pa_cons peR pa_nil hs) hbase hfew hline hs hplain) ((h F0 T F H σ lk S).mono fun v H1 ⟨x, r1, G1, F1, e1, S1, k1, i, ds0, hx, hi0, h1⟩ => by
    subst hx
    obtain ⟨hv, _⟩ := k1
    obtain ⟨p, h1', ⟨vs, h2, h3⟩, _⟩ := S1.mut hi0
    rw [hv] at h1'; cases h1'
    refine ⟨.inl ⟨rfl, vs, .inl (.inl h2)⟩, (h1 F0 T F1 H1 σ lk S1).mono fun w H2 ⟨y, r2, G2, F2, e2, S2, k2, d, r3, ds, q1, q2, q3⟩ => ?_⟩
    obtain ⟨F3, e3, S3, rp⟩ := S2.fz k2 q1
    exact mut_end ((e1.trans e2).trans e3) S3 q2 hv (.one rp) q3)
theorem mw_append {ds : List D} {d : D} {Kt : D → List D → Prop} (hl : ds.length < LIM) (k : Kt .non (ds ++ [d])) : MutW X "list.append" ds [d] Kt := fun F H p vs us hp hf ex h1 h2 => by
  obtain ⟨v, u', rfl, h3, h4⟩ := h2
  cases (show u' = [] from h4)
  exact ⟨_, mt_append, p, vs, v, rfl, rfl, hp, by rw [h1.length]; exact lim_lt hl, vs ++ [v], .non, ds ++ [d], rfl, rfl, h1.append (.one h3), k⟩
theorem we_append {Q : Res → Env2 → GD → Prop}
    (h : WE X o r G fun x r1 G1 => ∃ i ds0, x = .pk i ∧ r1[i]? = some (.own (.lst ds0)) ∧ WE X e r1 G1 fun y r2 G2 => ∃ d r3 ds, fz r2 y = some (d, r3) ∧ r3[i]? = some (.own (.lst ds)) ∧ ds.length < LIM ∧ Q (.sh .non) (r3.set i (.own (.lst (ds ++ [d])))) G2)
    (hbase : attributeBase o "append" X.env (eval o X.env) = eval o X.env := by rfl)
    (hfew : ((backTo cpos (starEach [e] X.env)).all (fun x => !x.1) && (backToKw cpos (keywordEach [] X.env)).all (fun x => x.1.isSome) && decide (([e] : List Expr).length + ([] : List Keyword).length + (if ([] : List Keyword).isEmpty then 0 else 1) < 30)) = true := by rfl)
    (hline : (apos.endLine == cpos.line) = true := by rfl) (hs : starEach [e] X.env = (false, eval e X.env) :: starEach [] X.env := by rfl) (hplain : (backTo cpos (starEach [] X.env)).any (·.1) = false := by rfl) :
    WE X (.Call (.Attribute o "append" apos) [e] [] cpos) r G Q :=
  we_m1 PySem.F.plainAttrs_list PySem.F.slot_list_append PySem.F.type_list_append (h.mono fun x r1 G1 ⟨i, ds0, h1, h2, h3⟩ => ⟨i, ds0, h1, h2, h3.mono fun y r2 G2 ⟨d, r3, ds, k1, k2, k3, k4⟩ => ⟨d, r3, ds, k1, k2, mw_append k3 k4⟩⟩) hbase hfew hline hs hplain
/-- a read-only method of a list with one argument -/
def MtW (X : Cy) (id : String) (dr da : D) (Q : Res → Prop) : Prop :=
  ∀ (F0 T F : Hp) (G : GD) (H : Hp) (r : Env2) (σ : L2.St) (v w : V), Sta X.K F0 T F G H r σ → Vw X.K F H dr v → Vw X.K F H da w →
    ∃ rr, MtR X id rr ∧ rr v [w] H (fun v' H' => ∃ x F', Ex F F' ∧ Sta X.K F0 T F' G H' r σ ∧ ResOk X.K T F' G H' r σ x v' ∧ Q x)
theorem we_r1 {name : Str} {id : String} {Q : Res → Env2 → GD → Prop} (pa : PlainAttrs "list") (slot : Slot "list" name id) (hty : typeOf (.builtin id) = pure (.type "method_descriptor"))
    (h : WE X o r G fun x r1 G1 => ∃ ds0, VwR r1 G1 x (.lst ds0) ∧ WE X e r1 G1 fun y r2 G2 => ∃ dr da, VwR r2 G2 x dr ∧ VwR r2 G2 y da ∧ MtW X id dr da fun z => Q z r2 G2)
    (hbase : attributeBase o name X.env (eval o X.env) = eval o X.env := by rfl)
    (hfew : ((backTo cpos (starEach [e] X.env)).all (fun x => !x.1) && (backToKw cpos (keywordEach [] X.env)).all (fun x => x.1.isSome) && decide (([e] : List Expr).length + ([] : List Keyword).length + (if ([] : List Keyword).isEmpty then 0 else 1) < 30)) = true := by rfl)
    (hline : (apos.endLine == cpos.line) = true := by rfl) (hs : starEach [e] X.env = (false, eval e X.env) :: starEach [] X.env := by rfl) (hplain : (backTo cpos (starEach [] X.env)).any (·.1) = false := by rfl) :
    WE X (.Call (.Attribute o name apos) [e] [] cpos) r G Q := fun F0 T F H σ lk S =>
  Run.of (pe_bm pa slot hty mtU_ok peR (pa_cons peR pa_nil hs) hbase hfew hline hs hplain) ((h F0 T F H σ lk S).mono fun v H1 ⟨x, r1, G1, F1, e1, S1, k1, ds0, hx, h1⟩ => by
    obtain ⟨p, vs, rfl, z1, _⟩ := (S1.viewR k1 hx).lst S1.bas.fh
    obtain ⟨F1', e1', S1', hv⟩ := hold S1 k1
    refine ⟨.inl ⟨rfl, vs, .inl z1⟩, (h1 F0 T F1' H1 σ lk S1').mono fun w H2 ⟨y, r2, G2, F2, e2, S2, k2, dr, da, q1, q2, q3⟩ => ?_⟩
    obtain ⟨rr, h3, h4⟩ := q3 F0 T F2 G2 H2 r2 σ _ w S2 (hv F2 G2 H2 r2 dr e2 S2 q1) (S2.viewR k2 q2)
    exact ⟨_, MtR.post h3 _, h4, fun v H' ⟨z, F', m1, m2, m3, m4⟩ => ⟨z, r2, G2, F', ((e1.trans e1').trans e2).trans m1, m2, m3, m4⟩⟩)
def Cy.blk (X : Cy) (s : Shared) (H : Hp) (scope : Scope) (env : Env) (fp : List Addr) : Cy := { X.toCx.blk s H scope env fp with F0 := X.F0, T := X.T, QX := fun _ _ _ => False }
def BlkX (X : Cy) (scope : Scope) (Y : Cy) : Prop := ∃ (s : Shared) (H : Hp) (C : Addr) (cl : List (Str × Addr)) (fp : List Addr), Y = X.blk s H scope (compEnvC scope cl C X.env) fp
theorem BlkX.k {scope : Scope} {Y : Cy} (h : BlkX X scope Y) : Y.K = X.K := by obtain ⟨_, _, _, _, _, rfl⟩ := h; rfl
theorem BlkX.lk {scope : Scope} {Y : Cy} {F0 T : Hp} (h : BlkX X scope Y) (lk : Lk X F0 T) : Lk Y F0 T := by obtain ⟨_, _, _, _, _, rfl⟩ := h; exact ⟨lk.t, lk.f, lk.ft⟩
theorem BlkX.tk {scope : Scope} {Y : Cy} (h : BlkX X scope Y) : Y.Tk := by
  obtain ⟨_, _, _, _, _, rfl⟩ := h
  exact takes0.imp fun _ _ _ _ ⟨_, _, _, _, _, _, z⟩ => z
def wipeD (r : Env2) : List Nat → Env2
  | [] => r
  | i :: is => (wipeD r is).set i .no
theorem wipeD_len (r : Env2) : ∀ is, (wipeD r is).length = r.length
  | [] => rfl
  | i :: is => by unfold wipeD; rw [List.length_set, wipeD_len r is]
theorem Sta.wipe {K : PySem.W.Frag} {F0 T F : Hp} {G : GD} {H : Hp} {r : Env2} {σ σ' : L2.St} (S : Sta K F0 T F G H r σ') : ∀ (is : List Nat), L2.wipe σ' is = L2.wipe σ is → Sta K F0 T F G H (wipeD r is) (L2.wipe σ is) := by
  intro is e
  rw [← e]
  clear e
  have key : ∀ (is : List Nat) (i : Nat) (s : Sl), (wipeD r is)[i]? = some s → s = .no ∨ (r[i]? = some s ∧ (L2.wipe σ' is)[i]? = σ'[i]?) := by
    intro is
    induction is with
    | nil => intro i s h; exact .inr ⟨h, rfl⟩
    | cons j is ih =>
      intro i s h
      unfold wipeD at h
      unfold L2.wipe
      by_cases hj : j = i
      · subst hj
        by_cases hl : j < (wipeD r is).length
        · rw [List.getElem?_set_self hl] at h; left; cases h; rfl
        · rw [List.getElem?_eq_none (by rw [List.length_set]; omega)] at h; cases h
      · rw [List.getElem?_set_ne hj] at h ⊢
        exact ih i s h
  refine ⟨S.bas, by rw [wipeD_len, wipe_length]; exact S.len, fun i s h => ?_, fun i j d e' hij hi hj => ?_⟩
  · rcases key is i s h with z | ⟨z1, z2⟩
    · subst z; trivial
    · rw [z2]; exact S.sl i s z1
  · rcases key is i _ hi with z | ⟨z1, z2⟩
    · cases z
    · rcases key is j _ hj with y | ⟨y1, y2⟩
      · cases y
      · rw [z2, y2]; exact S.ap i j d e' hij z1 y1
/-- what is done in a comprehension's turn, over data; B: the contexts in which elt is read -/
def LcTurnB (X : Cy) (scope : Scope) (B : Cy → Prop) (tg elt : Expr) (ifs : List Expr) (is : List Nat) (d : D) (acc : List D) (r : Env2) (G : GD) (Nx : List D → Env2 → GD → Prop) : Prop :=
  ∀ Y, BlkX X scope Y → WG Y tg d r G is fun r1 G1 => match ifs with
    | [] => ∀ Y, B Y → WE Y elt r1 G1 fun z r2 G2 => ∃ d' r3, fz r2 z = some (d', r3) ∧ acc.length < LIM ∧ Nx (acc ++ [d']) (wipeD r3 is) G2
    | [c] => ∀ Y, BlkX X scope Y → WT Y c r1 G1 fun b r2 G2 => (b = true → ∀ Y, B Y → WE Y elt r2 G2 fun z r3 G3 => ∃ d' r4, fz r3 z = some (d', r4) ∧ acc.length < LIM ∧ Nx (acc ++ [d']) (wipeD r4 is) G3) ∧ (b = false → Nx acc (wipeD r2 is) G2)
    | _ => False
def LcTurn (X : Cy) (scope : Scope) (tg elt : Expr) (ifs : List Expr) (is : List Nat) (d : D) (acc : List D) (r : Env2) (G : GD) (Nx : List D → Env2 → GD → Prop) : Prop :=
  ∀ Y, BlkX X scope Y → WG Y tg d r G is fun r1 G1 => match ifs with
    | [] => ∀ Y, BlkX X scope Y → WE Y elt r1 G1 fun z r2 G2 => ∃ d' r3, fz r2 z = some (d', r3) ∧ acc.length < LIM ∧ Nx (acc ++ [d']) (wipeD r3 is) G2
    | [c] => ∀ Y, BlkX X scope Y → WT Y c r1 G1 fun b r2 G2 => (b = true → ∀ Y, BlkX X scope Y → WE Y elt r2 G2 fun z r3 G3 => ∃ d' r4, fz r3 z = some (d', r4) ∧ acc.length < LIM ∧ Nx (acc ++ [d']) (wipeD r4 is) G3) ∧ (b = false → Nx acc (wipeD r2 is) G2)
    | _ => False
/-- the readings of a block, over all its contexts -/
def blkG (X : Cy) (scope : Scope) (tg : Expr) : TG := fun v σ H Q => ∀ Y, BlkX X scope Y → RunG Y tg v σ H Q
def blkE (X : Cy) (scope : Scope) (e : Expr) : TE := fun σ H Q => ∀ Y, BlkX X scope Y → Run Y e σ H Q
def blkT (X : Cy) (scope : Scope) (ifs : List Expr) : TT := fun σ H Q => match ifs with
  | [] => Q true H
  | [c] => ∀ Y, BlkX X scope Y → RunT Y c σ H Q
  | _ => False
theorem blkT_ok {scope : Scope} {ifs : List Expr} (s : Shared) (H : Hp) (C : Addr) (cl : List (Str × Addr)) (fp : List Addr) : PTs (X.toCx.blk s H scope (compEnvC scope cl C X.env) fp) ifs (blkT X scope ifs) := by
  refine ⟨fun pins s' σ H' Q I h => ?_⟩
  match ifs, h with
  | [], h => exact pts_nil.run pins s' σ H' Q I h
  | [c], h => exact (pts_one ptR).run pins s' σ H' Q I (h (X.blk s H scope (compEnvC scope cl C X.env) fp) ⟨s, H, C, cl, fp, rfl⟩)
  | _ :: _ :: _, h => exact h.elim
/-- one turn, over heaps -/
theorem lc_turnB {scope : Scope} {elt : Expr} {ifs : List Expr} {is : List Nat} {d : D} {acc : List D} {Nx : List D → Env2 → GD → Prop} {F0 T F H : Hp} {σ : L2.St} {v : V} {L : Addr} {us : List V}
    (lk : Lk X F0 T) (S : Sta X.K F0 (upd T L (.lst us)) F G H r (L2.wipe σ is)) (hT : T L = none) (h0 : F0 L = none) (ha : RepL X.K F0 acc us) (rp : Rep X.K F d v) {B : Cy → Prop} {te : TE} (hBk : ∀ Y, B Y → Y.K = X.K) (hBl : ∀ Y, B Y → ∀ T', Lk X F0 T' → Lk Y F0 T') (hte : ∀ σ H Q, (∀ Y, B Y → Run Y elt σ H Q) → te σ H Q) (h : LcTurnB X scope B tg elt ifs is d acc r G Nx) {Pn : Hp → Prop}
    (hN : ∀ acc' us' r' G' F' H', Nx acc' r' G' → RepL X.K F' acc' us' → Sta X.K F0 (upd T L (.lst us')) F' G' H' r' (L2.wipe σ is) → Pn H') :
    blkG X scope tg v (L2.wipe σ is) H fun σ2 H2 => L2.wipe σ2 is = L2.wipe σ is ∧ blkT X scope ifs σ2 H2 fun b H3 =>
      if b = true then te σ2 H3 fun y H4 => ∃ acc', H4 L = some (.lst acc') ∧ acc'.length < sizeLine ∧ Pn (upd H4 L (.lst (acc' ++ [y]))) else Pn H3 := by
  have wi : L2.wipe (L2.wipe σ is) is = L2.wipe σ is := by
    have aux : ∀ (js : List Nat) (τ : L2.St), (∀ j ∈ js, ∀ x, τ[j]? = some x → x = none) → L2.wipe τ js = τ := by
      intro js
      induction js with
      | nil => intro τ _; rfl
      | cons j js ih =>
        intro τ hτ
        unfold L2.wipe
        rw [ih τ fun k hk => hτ k (List.mem_cons_of_mem _ hk)]
        refine List.ext_getElem? fun k => ?_
        by_cases hjk : j = k
        · subst hjk
          by_cases hl : j < τ.length
          · rw [List.getElem?_set_self hl]
            cases e : τ[j]? with
            | none => rw [List.getElem?_eq_none_iff] at e; omega
            | some x => rw [hτ j List.mem_cons_self x e]
          · rw [List.getElem?_eq_none (by rw [List.length_set]; omega), List.getElem?_eq_none (by omega)]
        · rw [List.getElem?_set_ne hjk]
    refine aux is _ fun j hj x hx => ?_
    cases x with
    | none => rfl
    | some y => exact absurd hj (wipe_some hx).2
  have fin : ∀ (F2 : Hp) (G2 : GD) (H4 : Hp) (r2 r3 : Env2) (σ2 : L2.St) (z : Res) (y : V) (d' : D), L2.wipe σ2 is = L2.wipe σ is → Sta X.K F0 (upd T L (.lst us)) F2 G2 H4 r2 σ2 → ResOk X.K (upd T L (.lst us)) F2 G2 H4 r2 σ2 z y → fz r2 z = some (d', r3) → acc.length < LIM → Nx (acc ++ [d']) (wipeD r3 is) G2 →
      ∃ acc', H4 L = some (.lst acc') ∧ acc'.length < sizeLine ∧ Pn (upd H4 L (.lst (acc' ++ [y]))) := fun F2 G2 H4 r2 r3 σ2 z y d' hw S2 k2 q1 q2 q3 => by
    obtain ⟨F3, e3, S3, rp3⟩ := S2.fz k2 q1
    have hL : H4 L = some (.lst us) := S3.bas.tk L _ upd_same
    have ha3 : RepL X.K F3 acc us := RepL.mono S3.bas.ff _ _ ha
    have fL : F3 L = none := by
      cases e : F3 L with
      | none => rfl
      | some u =>
        rcases S3.bas.ft L u e with zz | zz
        · rw [h0] at zz; cases zz
        · rw [upd_same] at zz; cases zz
    have gL : G2 L = none := by
      cases e : G2 L with
      | none => rfl
      | some u => have zz := S3.bas.gt L u e; rw [upd_same] at zz; cases zz
    refine ⟨us, hL, by rw [ha3.length]; exact lim_lt q2, hN _ (us ++ [y]) _ G2 F3 _ q3 (ha3.append (.one rp3)) ?_⟩
    have Sw := S3.wipe is hw
    refine ⟨⟨Sw.bas.ff, fun q u hq => ?_, fun q u hq => ?_, fun q u hq => ?_, Sw.bas.fg, fun q u hq => ?_, fun q u hq => ?_⟩, Sw.len, fun i s hs => ?_, Sw.ap⟩
    · have hqL : q ≠ L := fun zz => by subst zz; rw [fL] at hq; cases hq
      have := Sw.bas.ft q u hq
      rw [upd_ne hqL] at this ⊢
      exact this
    · have hqL : q ≠ L := fun zz => by subst zz; rw [fL] at hq; cases hq
      rw [upd_ne hqL]; exact Sw.bas.fh q u hq
    · have hqL : q ≠ L := fun zz => by subst zz; rw [gL] at hq; cases hq
      exact (Sw.bas.gh q u hq).mono (Ex.refl _) fun o ho => by rw [upd_ne hqL]; exact ho
    · have hqL : q ≠ L := fun zz => by subst zz; rw [gL] at hq; cases hq
      have := Sw.bas.gt q u hq
      rw [upd_ne hqL] at this ⊢
      exact this
    · by_cases hqL : q = L
      · subst hqL; rw [upd_same] at hq ⊢; exact hq
      · rw [upd_ne hqL] at hq ⊢
        exact Sw.bas.tk q u (by rw [upd_ne hqL]; exact hq)
    · have hh := Sw.sl i s hs
      cases s with
      | no => trivial
      | sh d => exact hh
      | own d =>
        obtain ⟨p, k1, k3, k4, k5, k6⟩ := hh
        have hpL : p ≠ L := fun zz => by subst zz; rw [upd_same] at k6; cases k6
        rw [upd_ne hpL] at k6
        exact ⟨p, k1, k3.mono (Ex.refl _) (fun u hu => by rw [upd_ne hpL]; exact hu), k4, k5, by rw [upd_ne hpL]; exact k6⟩
  intro Y hY pins s u I rv
  have lk' : Lk X F0 (upd T L (.lst us)) := lk.ext (Ex.new hT)
  have hYK : Y.K = X.K := hY.k
  have h' := h Y hY
  unfold WG at h'
  rw [hYK] at h'
  refine wpAny_mono (h' F0 (upd T L (.lst us)) F H (L2.wipe σ is) v (hY.lk lk') S rp pins s u I rv) (fun _ s' ⟨σ', H', I', hw, r', G', F', e', S', q⟩ => ⟨σ', H', I', hw.trans wi, ?_⟩) fun _ _ x => x
  have hw' := hw.trans wi
  match ifs, q with
  | [], q =>
    unfold blkT
    dsimp only
    rw [if_pos rfl]
    refine hte _ _ _ fun Z hZ => ?_
    have q' := q Z hZ
    unfold WE at q'
    rw [hBk Z hZ] at q'
    exact (q' F0 _ F' H' σ' (hBl Z hZ _ lk') S').mono fun y H4 ⟨z, r2, G2, F2, e2, S2, k2, d', r3, m1, m2, m3⟩ => fin F2 G2 H4 r2 r3 σ' z y d' hw' S2 k2 m1 m2 m3
  | [c], q =>
    intro Z hZ
    have q' := q Z hZ
    unfold WT at q'
    rw [hZ.k] at q'
    refine (q' F0 _ F' H' σ' (hZ.lk lk') S').mono fun b H3 ⟨r2, G2, F2, e2, S2, m1, m2⟩ => ?_
    cases b with
    | true =>
      rw [if_pos rfl]
      refine hte _ _ _ fun W hW => ?_
      have q2 := m1 rfl W hW
      unfold WE at q2
      rw [hBk W hW] at q2
      exact (q2 F0 _ F2 H3 σ' (hBl W hW _ lk') S2).mono fun y H4 ⟨z, r3, G3, F3, e3, S3, k3, d', r4, n1, n2, n3⟩ => fin F3 G3 H4 r3 r4 σ' z y d' hw' S3 k3 n1 n2 n3
    | false =>
      rw [if_neg Bool.false_ne_true]
      exact hN acc us _ G2 F2 H3 (m2 rfl) (RepL.mono S2.bas.ff _ _ ha) (S2.wipe is hw')
  | _ :: _ :: _, q => exact q.elim
/-- what a comprehension's loop keeps -/
def LcInv (K : PySem.W.Frag) (T Fa : Hp) (τ : L2.St) (L : Addr) (I : List D → Env2 → GD → Prop) : Hp → Prop := fun H' =>
  ∃ acc us r' G' F', RepL K F' acc us ∧ Sta K Fa (upd T L (.lst us)) F' G' H' r' τ ∧ I acc r' G'
theorem lc_begin {K : PySem.W.Frag} {F0 T F H : Hp} {σ : L2.St} {is : List Nat} {L : Addr} {I : List D → Env2 → GD → Prop} (S : Sta K F0 T F G H r σ) (hL : H L = none) (h0 : I [] (wipeD r is) G) : LcInv K T F (L2.wipe σ is) L I (upd H L (.lst [])) := by
  obtain ⟨f1, f2, f3⟩ := S.bas.freshF hL
  have Sb := (S.newH (o := .lst []) hL).base.wipe (σ := σ) is rfl
  refine ⟨[], [], _, G, F, rfl, ⟨⟨Sb.bas.ff, fun q u hq => .inl hq, Sb.bas.fh, Sb.bas.gh, Sb.bas.fg, fun q u hq => ?_, fun q u hq => ?_⟩, Sb.len, fun i s hs => ?_, Sb.ap⟩, h0⟩
  · have hq' : q ≠ L := fun z => by subst z; rw [f2] at hq; cases hq
    rw [upd_ne hq']; exact Sb.bas.gt q u hq
  · by_cases hq' : q = L
    · subst hq'; rw [upd_same] at hq ⊢; exact hq
    · rw [upd_ne hq'] at hq; exact Sb.bas.tk q u hq
  · have hh := Sb.sl i s hs
    cases s with
    | no => trivial
    | sh d => exact hh
    | own d =>
      obtain ⟨p, k1, k2, k3, k4, k5⟩ := hh
      have hp : p ≠ L := fun z => by
        subst z
        by_cases hi : i ∈ is
        · have : (L2.wipe σ is)[i]? ≠ some (some (V.ref p)) := fun z => (wipe_some z).2 hi
          exact this k1
        · have e := (wipe_some k1).1
          have hr : r[i]? = some (.own d) := by
            have aux : ∀ (js : List Nat), i ∉ js → (wipeD r js)[i]? = r[i]? := by
              intro js
              induction js with
              | nil => intro _; rfl
              | cons j js ih =>
                intro hj
                unfold wipeD
                rw [List.getElem?_set_ne (fun z => hj (by rw [z]; exact List.mem_cons_self)), ih (fun z => hj (List.mem_cons_of_mem _ z))]
            rw [aux is hi] at hs
            exact hs
          exact S.freshR hL i d hr e
      exact ⟨p, k1, k2, k3, k4, by rw [upd_ne hp]; exact k5⟩
theorem lc_end {K : PySem.W.Frag} {F0 T Fa : Hp} {Ga : GD} {Ha H' : Hp} {σ : L2.St} {is : List Nat} {L : Addr} {I : List D → Env2 → GD → Prop} {Q : Res → Env2 → GD → Prop} (B : Bas K F0 T Fa Ga Ha) (hL : Ha L = none) (hσ : Wk r (wipeD r is)) (S0 : Sta K F0 T Fa Ga Ha r σ) (h : LcInv K T Fa (L2.wipe σ is) L I H') (he : ∀ acc r' G', I acc r' G' → Q (.fr (.lst acc)) r' G') :
    PostE K F0 T Fa σ Q (.ref L) H' := by
  obtain ⟨acc, us, r', G', F', ha, S, q⟩ := h
  obtain ⟨f1, f2, f3⟩ := B.freshF hL
  have fL : F' L = none := by
    cases e : F' L with
    | none => rfl
    | some u =>
      rcases S.bas.ft L u e with zz | zz
      · rw [f1] at zz; cases zz
      · rw [upd_same] at zz; cases zz
  have gL : G' L = none := by
    cases e : G' L with
    | none => rfl
    | some u => have zz := S.bas.gt L u e; rw [upd_same] at zz; cases zz
  have tsub : ∀ q u, T q = some u → upd T L (.lst us) q = some u := fun q u hq => by
    have hqL : q ≠ L := fun zz => by subst zz; rw [f3] at hq; cases hq
    rw [upd_ne hqL]; exact hq
  have tdown : ∀ q, upd T L (.lst us) q = none → T q = none := fun q hq => by
    cases hf : T q with
    | none => rfl
    | some u => rw [tsub q u hf] at hq; cases hq
  have slots : ∀ (i : Nat) (s : Sl), r'[i]? = some s → SlotOk K T F' G' H' s σ[i]? := fun i s hs => by
    have hh := S.sl i s hs
    cases s with
    | no => trivial
    | sh d => obtain ⟨v, k1, k2⟩ := hh; exact ⟨v, (wipe_some k1).1, k2⟩
    | own d => obtain ⟨p, k1, k2, k3, k4, k5⟩ := hh; exact ⟨p, (wipe_some k1).1, k2, k3, k4, tdown p k5⟩
  have St : Sta K F0 T F' G' H' r' σ := by
    refine ⟨⟨B.ff.trans S.bas.ff, fun q u hq => ?_, S.bas.fh, S.bas.gh, S.bas.fg, fun q u hq => tdown q (S.bas.gt q u hq), fun q u hq => S.bas.tk q u (tsub q u hq)⟩, by rw [S.len, wipe_length], slots, fun i j d e hij hi hj z => ?_⟩
    · rcases S.bas.ft q u hq with zz | zz
      · exact B.ft q u zz
      · exact .inr (tdown q zz)
    · obtain ⟨p, k1, _⟩ := S.ownS hi
      obtain ⟨p2, m1, _⟩ := S.ownS hj
      refine S.ap i j d e hij hi hj ?_
      rw [(wipe_some k1).1, (wipe_some m1).1] at z
      rw [k1, m1, z]
  refine ⟨.fr (.lst acc), r', G', F', S.bas.ff, St, ⟨L, rfl, ⟨us, S.bas.tk L _ upd_same, ha⟩, fL, gL, f3, fun i d hi z => ?_⟩, he acc r' G' q⟩
  obtain ⟨p, k1, _, _, _, k5⟩ := S.ownS hi
  have e1 := (wipe_some k1).1
  rw [e1] at z; cases z
  rw [upd_same] at k5; cases k5
theorem wk_wipe (r : Env2) : ∀ is, Wk r (wipeD r is)
  | [] => Wk.refl r
  | i :: is => by
    have ih := wk_wipe r is
    unfold wipeD
    have aux : ∀ {a b : Env2}, Wk a b → ∀ i, Wk a (b.set i .no) := by
      intro a b w
      induction w with
      | nil => intro i; exact .nil
      | no w ih =>
        intro i
        cases i with
        | zero => exact .no w
        | succ i => exact .no (ih i)
      | eq w ih =>
        intro i
        cases i with
        | zero => exact .no w
        | succ i => exact .eq (ih i)
    exact aux ih i
/-- one step of a comprehension over items -/
theorem lc_stepB {scope : Scope} {elt : Expr} {ifs : List Expr} {is : List Nat} {d : D} {J : It} {ds : List D} {i : Nat} {T Fa : Hp} {H H' : Hp} {σ : L2.St} {v : V} {L : Addr} {I I' : List D → Env2 → GD → Prop} (lk : Lk X Fa T) (hL : Fa L = none) (hT : T L = none) (hJ : ItD X.K J Fa ds) (hi : ds[i]? = some d) (h : LcInv X.K T Fa (L2.wipe σ is) L I H) (y : J.yld i H v H')
    {B : Cy → Prop} {te : TE} (hBk : ∀ Y, B Y → Y.K = X.K) (hBl : ∀ Y, B Y → ∀ F' T', Ex Fa F' → Lk X F' T' → Lk Y F' T') (hte : ∀ σ H Q, (∀ Y, B Y → Run Y elt σ H Q) → te σ H Q) (hs : ∀ acc r' G', I acc r' G' → LcTurnB X scope B tg elt ifs is d acc r' G' I') :
    blkG X scope tg v (L2.wipe σ is) H' fun σ2 H2 => L2.wipe σ2 is = L2.wipe σ is ∧ blkT X scope ifs σ2 H2 fun b H3 =>
      if b = true then te σ2 H3 fun y H4 => ∃ acc', H4 L = some (.lst acc') ∧ acc'.length < sizeLine ∧ LcInv X.K T Fa (L2.wipe σ is) L I' (upd H4 L (.lst (acc' ++ [y]))) else LcInv X.K T Fa (L2.wipe σ is) L I' H3 := by
  obtain ⟨acc, us, r', G', F1, ha1, S1, q⟩ := h
  obtain ⟨F', ef, S, rp⟩ := hJ.item S1.bas.ff S1 hi y
  have ha := RepL.mono ef _ _ ha1
  have fL : F' L = none := by
    cases e : F' L with
    | none => rfl
    | some u =>
      rcases S.bas.ft L u e with zz | zz
      · rw [hL] at zz; cases zz
      · rw [upd_same] at zz; cases zz
  have lk' : Lk X F' T := ⟨lk.t, lk.f.trans S.bas.ff, fun a o ho => (S.bas.ft a o ho).elim (fun z => lk.ft a o z) fun z => .inr (none_of lk.t (none_of (Ex.new hT) z))⟩
  refine lc_turnB lk' S.base hT fL ha rp hBk (fun Y hY T' l2 => hBl Y hY F' T' S.bas.ff l2) hte (hs acc r' G' q) fun acc' us' r2 G2 F2 H2 q2 ha2 S2 => ?_
  refine ⟨acc', us', r2, G2, F2, ha2, ⟨⟨S.bas.ff.trans S2.bas.ff, fun q u hq => ?_, S2.bas.fh, S2.bas.gh, S2.bas.fg, S2.bas.gt, S2.bas.tk⟩, S2.len, S2.sl, S2.ap⟩, q2⟩
  rcases S2.bas.ft q u hq with zz | zz
  · rcases S.bas.ft q u zz with yy | yy
    · exact .inl yy
    · by_cases hqL : q = L
      · subst hqL; rw [fL] at zz; cases zz
      · rw [upd_ne hqL] at yy ⊢; exact .inr yy
  · exact .inr zz
theorem lc_step {scope : Scope} {elt : Expr} {ifs : List Expr} {is : List Nat} {d : D} {J : It} {ds : List D} {i : Nat} {T Fa : Hp} {H H' : Hp} {σ : L2.St} {v : V} {L : Addr} {I I' : List D → Env2 → GD → Prop} (lk : Lk X Fa T) (hL : Fa L = none) (hT : T L = none) (hJ : ItD X.K J Fa ds) (hi : ds[i]? = some d) (h : LcInv X.K T Fa (L2.wipe σ is) L I H) (y : J.yld i H v H')
    (hs : ∀ acc r' G', I acc r' G' → LcTurn X scope tg elt ifs is d acc r' G' I') :
    blkG X scope tg v (L2.wipe σ is) H' fun σ2 H2 => L2.wipe σ2 is = L2.wipe σ is ∧ blkT X scope ifs σ2 H2 fun b H3 =>
      if b = true then blkE X scope elt σ2 H3 fun y H4 => ∃ acc', H4 L = some (.lst acc') ∧ acc'.length < sizeLine ∧ LcInv X.K T Fa (L2.wipe σ is) L I' (upd H4 L (.lst (acc' ++ [y]))) else LcInv X.K T Fa (L2.wipe σ is) L I' H3 :=
  lc_stepB (B := BlkX X scope) lk hL hT hJ hi h y (fun _ h => h.k) (fun _ h _ _ _ lk => h.lk lk) (fun _ _ _ h => h) hs
/-- [elt for tg in e if ..] -/
theorem lcI {scope : Scope} {elt : Expr} {ifs : List Expr} {own : List (Str × Nat)} {Q : Res → Env2 → GD → Prop} {F0 T F H : Hp} {σ : L2.St} (lk : Lk X F0 T) (S : Sta X.K F0 T F G H r σ)
    (h : WI X tg e r G fun ds r2 G1 => ∃ I : Nat → List D → Env2 → GD → Prop, I 0 [] (wipeD r2 (own.map (·.2))) G1 ∧ (∀ (k : Nat) (d : D) (acc : List D) (r3 : Env2) (G3 : GD), ds[k]? = some d → I k acc r3 G3 → LcTurn X scope tg elt ifs (own.map (·.2)) d acc r3 G3 (I (k + 1))) ∧
      ∀ acc r3 G3, I ds.length acc r3 G3 → Q (.fr (.lst acc)) r3 G3) : tLc (RunI X tg e) (blkG X scope tg) (blkT X scope ifs) (blkE X scope elt) (own.map (·.2)) σ H (PostE X.K F0 T F σ Q) := by
  refine (h F0 T F H σ lk S).mono fun J H1 ⟨ds, r2, G1, Fa, e1, Sa, hJ, I, i0, it, ie⟩ L hL => ?_
  obtain ⟨f1, f2, f3⟩ := Sa.bas.freshF hL
  refine ⟨fun i m H' => m = ds.length - i ∧ i ≤ ds.length ∧ LcInv X.K T Fa (L2.wipe σ (own.map (·.2))) L (I i) H', ⟨ds.length, by simp, Nat.zero_le _, lc_begin Sa hL i0⟩, ?_⟩
  rintro i m H' ⟨rfl, hi, hI⟩
  obtain ⟨_, _, _, _, F', _, S', _⟩ := id hI
  obtain ⟨j1, j2⟩ := hJ F' H' S'.bas.ff S'.bas.fh
  by_cases hlt : i < ds.length
  · obtain ⟨j3, _⟩ := j2 i ds[i] (List.getElem?_eq_getElem hlt)
    refine .inr ⟨j3, fun H2 => LcInv X.K T Fa (L2.wipe σ (own.map (·.2))) L (I (i + 1)) H2, fun H2 p2 => ⟨ds.length - (i + 1), by omega, rfl, hlt, p2⟩, fun x H2 y => ?_⟩
    exact lc_step (lk.base Sa.bas) f1 f3 hJ (List.getElem?_eq_getElem hlt) hI y fun acc r' G' q => it i ds[i] acc r' G' (List.getElem?_eq_getElem hlt) q
  · have e : i = ds.length := by omega
    subst e
    exact .inl ⟨j1, (lc_end Sa.bas hL (wk_wipe _ _) Sa hI fun acc r' G' q => ie acc r' G' q).ext e1⟩
theorem blkG_ok {scope : Scope} (s : Shared) (H : Hp) (C : Addr) (cl : List (Str × Addr)) (fp : List Addr) : PG (X.toCx.blk s H scope (compEnvC scope cl C X.env) fp) tg (blkG X scope tg) :=
  ⟨fun pins s' σ H' v u Q I rv h => h (X.blk s H scope (compEnvC scope cl C X.env) fp) ⟨s, H, C, cl, fp, rfl⟩ pins s' u I rv⟩
theorem blkE_ok {scope : Scope} {elt : Expr} (s : Shared) (H : Hp) (C : Addr) (cl : List (Str × Addr)) (fp : List Addr) : PE (X.toCx.blk s H scope (compEnvC scope cl C X.env) fp) elt (blkE X scope elt) :=
  ⟨fun pins s' σ H' Q I h => h (X.blk s H scope (compEnvC scope cl C X.env) fp) ⟨s, H, C, cl, fp, rfl⟩ pins s' I⟩
theorem we_lc {scope : Scope} {elt : Expr} {ifs : List Expr} (own : List (Str × Nat)) {Q : Res → Env2 → GD → Prop} (hc : X.calm = true) (hN : X.N.Nodup) (ok : BlkOk X.N X.env.scope scope own)
    (h : WI X tg e r G fun ds r2 G1 => ∃ I : Nat → List D → Env2 → GD → Prop, I 0 [] (wipeD r2 (own.map (·.2))) G1 ∧ (∀ (k : Nat) (d : D) (acc : List D) (r3 : Env2) (G3 : GD), ds[k]? = some d → I k acc r3 G3 → LcTurn X scope tg elt ifs (own.map (·.2)) d acc r3 G3 (I (k + 1))) ∧
      ∀ acc r3 G3, I ds.length acc r3 G3 → Q (.fr (.lst acc)) r3 G3) (hs : ∀ x, foldedSetIterable e X.env x = pure x := by intro _; rfl) : WE X (.ListComp elt [⟨tg, e, ifs, 0⟩] scope pos) r G Q := fun F0 T F H σ lk S =>
  Run.of (pe_lc hc hN piR ok blkG_ok blkT_ok blkE_ok hs) (lcI lk S h)
/-- y = [..] -/
theorem ws_setLc {scope : Scope} {elt : Expr} {ifs : List Expr} (own : List (Str × Nat)) (i : Nat) {y : Str} {py spos : Pos} (hc : X.calm = true) (hN : X.N.Nodup) (hy : X.N[i]? = some y) (hyl : X.env.scope.names.lookup y = some .local)
    (hsw : swapsWith (.ListComp elt [⟨tg, e, ifs, 0⟩] scope pos) (some (.Name y py)) spos.line X.env = pure true) (ok : BlkOk X.N X.env.scope scope own)
    (h : WI X tg e r G fun ds r2 G1 => ∃ I : Nat → List D → Env2 → GD → Prop, I 0 [] (wipeD r2 (own.map (·.2))) G1 ∧ (∀ (k : Nat) (d : D) (acc : List D) (r3 : Env2) (G3 : GD), ds[k]? = some d → I k acc r3 G3 → LcTurn X scope tg elt ifs (own.map (·.2)) d acc r3 G3 (I (k + 1))) ∧
      ∀ acc r3 G3, I ds.length acc r3 G3 → i < r3.length ∧ ∃ r2, putS r3 i (.fr (.lst acc)) = some r2 ∧ D0.nx r2 G3) (hs : ∀ x, foldedSetIterable e X.env x = pure x := by intro _; rfl) : WS X (.Assign [.Name y py] (.ListComp elt [⟨tg, e, ifs, 0⟩] scope pos) spos) r G D0 := fun F0 T F H σ lk S =>
  RunS.of (ps_setLc hc hN hy hyl hsw piR ok blkG_ok blkT_ok blkE_ok hs) (by
    have q := lcI (Q := fun y r1 G1 => i < r1.length ∧ ∃ r2, putS r1 i y = some r2 ∧ D0.nx r2 G1) (own := own) (scope := scope) (elt := elt) (ifs := ifs) lk S h
    refine RunI.mono q fun J H1 h1 L hL => ?_
    obtain ⟨W, w0, ws⟩ := h1 L hL
    refine ⟨W, w0, fun i' m H hW => (ws i' m H hW).imp (fun ⟨z1, z2⟩ => ⟨z1, ?_⟩) id⟩
    obtain ⟨y, r1, G1, F1, e1, S1, k1, hi, r2, q1, q2⟩ := z2
    obtain ⟨F2, e2, S2⟩ := S1.putS k1 hi q1
    exact ⟨r2, G1, F2, S2, q2⟩)
end
theorem Sta.gput {K : PySem.W.Frag} {F0 T F : Hp} {G : GD} {H : Hp} {r : Env2} {σ : L2.St} (S : Sta K F0 T F G H r σ) {b : Addr} {d0 d : D} (hG : G b = some d0) {o' : HO} (ho : Own K F (upd H b o') b d) : Sta K F0 T F (updG G b d) (upd H b o') r σ := by
  have f1 := S.bas.fg _ _ hG
  have f2 := S.bas.gt _ _ hG
  refine ⟨⟨S.bas.ff, S.bas.ft, fun a u e => ?_, fun a u e => ?_, fun a u e => ?_, fun a u e => ?_, fun a u e => ?_⟩, S.len, fun i s e => ?_, S.ap⟩
  · rw [upd_ne (ne_of_none e f1)]; exact S.bas.fh a u e
  · by_cases h : a = b
    · subst h; rw [updG_same] at e; cases e; exact ho
    · rw [updG_ne h] at e
      exact (S.bas.gh a u e).mono (Ex.refl _) fun o q => by rw [upd_ne h]; exact q
  · by_cases h : a = b
    · subst h; exact f1
    · rw [updG_ne h] at e; exact S.bas.fg a u e
  · by_cases h : a = b
    · subst h; exact f2
    · rw [updG_ne h] at e; exact S.bas.gt a u e
  · rw [upd_ne (ne_of_none e f2)]; exact S.bas.tk a u e
  · have q := S.sl i s e
    cases s with
    | no => trivial
    | sh d => exact q
    | own d =>
      obtain ⟨p, q1, q2, q3, q4, q5⟩ := q
      have hp : p ≠ b := fun z => by subst z; rw [q4] at hG; cases hG
      exact ⟨p, q1, q2.mono (Ex.refl _) (fun u hu => by rw [upd_ne hp]; exact hu), q3, by rw [updG_ne hp]; exact q4, q5⟩
/-- a new object of the open region -/
theorem Sta.gnew {K : PySem.W.Frag} {F0 T F : Hp} {G : GD} {H : Hp} {r : Env2} {σ : L2.St} (S : Sta K F0 T F G H r σ) {p : Addr} {d : D} (h : ResOk K T F G H r σ (.fr d) (.ref p)) : Sta K F0 T F (updG G p d) H r σ := by
  obtain ⟨p', e, h2, h3, h4, h5, h6⟩ := h
  cases e
  refine ⟨⟨S.bas.ff, S.bas.ft, S.bas.fh, fun a u e => ?_, fun a u e => ?_, fun a u e => ?_, S.bas.tk⟩, S.len, fun i s e => ?_, S.ap⟩
  · by_cases h : a = p
    · subst h; rw [updG_same] at e; cases e; exact h2
    · rw [updG_ne h] at e; exact S.bas.gh a u e
  · by_cases h : a = p
    · subst h; exact h3
    · rw [updG_ne h] at e; exact S.bas.fg a u e
  · by_cases h : a = p
    · subst h; exact h5
    · rw [updG_ne h] at e; exact S.bas.gt a u e
  · have q := S.sl i s e
    cases s with
    | no => trivial
    | sh d => exact q
    | own d =>
      obtain ⟨p', q1, q2, q3, q4, q5⟩ := q
      have hp : p' ≠ p := fun z => by subst z; exact h6 i d e q1
      exact ⟨p', q1, q2, q3, by rw [updG_ne hp]; exact q4, q5⟩
section
variable {X : Cy} {e e2 a b c o tg : Expr} {es : List Expr} {st : Stmt} {sts rest body orelse : List Stmt} {r : Env2} {G : GD} {pos tpos apos cpos p0 : Pos} {D0 : EndsD}
/-- a fresh result goes to the open region -/
theorem we_open {Q : Res → Env2 → GD → Prop} (h : WE X e r G fun x r1 G1 => ∃ d, x = .fr d ∧ ∀ p, G1 p = none → Q (.sh (.adr p)) r1 (updG G1 p d)) : WE X e r G Q := fun F0 T F H σ lk S =>
  (h F0 T F H σ lk S).mono fun v H1 ⟨x, r1, G1, F1, e1, S1, k1, d, hx, q⟩ => by
    subst hx
    obtain ⟨p, rfl, h2, h3, h4, h5, h6⟩ := id k1
    exact ⟨.sh (.adr p), r1, updG G1 p d, F1, e1, S1.gnew k1, rfl, q p h4⟩
/-- o[i] = e, o a list of the open region -/
theorem ws_setG (h : WE X e r G fun y r1 G1 => ∃ d r1', fz r1 y = some (d, r1') ∧ WE X o r1' G1 fun x r2 G2 => ∃ g, x = .sh (.adr g) ∧ WE X a r2 G2 fun z r3 G3 => ∃ k ds m, vw r3 z = some (.int k) ∧ G3 g = some (.lst ds) ∧ ixN ds.length k = some m ∧ D0.nx r3 (updG G3 g (.lst (ds.set m d))))
    (ha : ∀ v, assign (.Subscript o a tpos) X.env v = (do
      let ov ← holding [v] (eval o X.env)
      let iv ← holding [v, ov] (eval a X.env)
      standAt tpos
      holding [v, ov, iv] (setItem ov iv v)
      release [v, ov, iv] []) := by intro _; rfl)
    (hs : swapsWithSole [.Subscript o a tpos] e pos.line X.env = pure false := by rfl) (hw : swappedStores [.Subscript o a tpos] e X.env = pure none := by rfl)
    (h1 : (assignEach [.Subscript o a tpos] X.env).map (·.2) = [assign (.Subscript o a tpos) X.env] := by rfl) : WS X (.Assign [.Subscript o a tpos] e pos) r G D0 := fun F0 T F H σ lk S =>
  RunS.of (ps_asg peR (pg_sub peR peR set_list ha) hs hw h1) ((h F0 T F H σ lk S).mono fun v H1 ⟨y, r1, G1, F1, e1, S1, k1, d, r1', q1, q2⟩ => by
    obtain ⟨F1', e1', S1', rp⟩ := S1.fz k1 q1
    refine (q2 F0 T F1' H1 σ lk S1').mono fun vo H2 ⟨x, r2, G2, F2, e2, S2, k2, g, hx, q3⟩ => ?_
    subst hx
    cases (show vo = .ref g from k2)
    refine (q3 F0 T F2 H2 σ lk S2).mono fun vi H3 ⟨z, r3, G3, F3, e3, S3, k3, k, ds, m, q4, q5, q6, q7⟩ => ?_
    cases (S3.view k3 q4).int
    obtain ⟨vs, z1, z2⟩ := S3.bas.gh _ _ q5
    exact ⟨g, vs, k, m, rfl, rfl, z1, by rw [z2.length]; exact q6, r3, _, F3, S3.gput (d := .lst (ds.set m d)) q5 ⟨_, upd_same, z2.set m (Rep.mono (e2.trans e3) _ _ rp)⟩, q7⟩)
theorem Sta.lock {K : PySem.W.Frag} {F0 T F : Hp} {G : GD} {H : Hp} {r : Env2} {σ : L2.St} (S : Sta K F0 T F G H r σ) {p : Addr} {ks : List Key} {ds : List D} {vs : List V} {o : Obj} (hp : H p = some (.dK (ks.zip vs))) (hl : ks.length = ds.length) (hv : RepL K F ds vs) (h1 : F p = none) (h2 : G p = none) (h3 : T p = none)
    (h4 : ∀ (i : Nat) (e : D), r[i]? = some (.own e) → σ[i]? ≠ some (some (.ref p))) :
    Ex F (upd F p (.frz o (.dK (ks.zip vs)))) ∧ Sta K F0 T (upd F p (.frz o (.dK (ks.zip vs)))) G (upd H p (.frz o (.dK (ks.zip vs)))) r σ ∧ Rep K (upd F p (.frz o (.dK (ks.zip vs)))) (.dic ks ds) (.ref p) := by
  have ef : Ex F (upd F p (.frz o (.dK (ks.zip vs)))) := Ex.new h1
  refine ⟨ef, ⟨(S.bas.put h1 h2 h3).frz upd_same h1 h2 h3, S.len, fun i s e => ?_, S.ap⟩, p, o, vs, rfl, upd_same, hl, RepL.mono ef _ _ hv⟩
  have q := S.sl i s e
  cases s with
  | no => trivial
  | sh d => obtain ⟨v, q1, q2⟩ := q; exact ⟨v, q1, Rep.mono ef _ _ q2⟩
  | own d =>
    obtain ⟨p', q1, q2, q3, q4, q5⟩ := q
    have hne : p' ≠ p := fun z => by subst z; exact h4 i d e q1
    exact ⟨p', q1, q2.mono ef fun u hu => by rw [upd_ne hne]; exact hu, by rw [upd_ne hne]; exact q3, q4, q5⟩
/-- a dict that was just made -/
theorem we_lock {Q : Res → Env2 → GD → Prop} (h : WE X e r G fun x r1 G1 => ∃ ks ds, x = .fr (.dic ks ds) ∧ Q (.sh (.dic ks ds)) r1 G1) : WE X e r G Q := fun F0 T F H σ lk S pins s I =>
  wpAny_mono (h F0 T F H σ lk S pins s I) (fun u s' ⟨v, H', I', rv, x, r1, G1, F1, e1, S1, k1, ks, ds, hx, q⟩ => by
    subst hx
    obtain ⟨p, rfl, ⟨vs, z1, z2, z3⟩, h3, h4, h5, h6⟩ := k1
    obtain ⟨o, I2⟩ := I'.lock z1 (by first | trivial | exact .inl rfl | decide)
    obtain ⟨ef, S2, rp⟩ := S1.lock (o := o) z1 z2 z3 h3 h4 h5 h6
    exact ⟨.ref p, _, I2, rv, .sh (.dic ks ds), r1, G1, _, e1.trans ef, S2, rp, q⟩) fun _ _ x => x
theorem Sta.lockSlot {K : PySem.W.Frag} {F0 T F : Hp} {G : GD} {H : Hp} {r : Env2} {σ : L2.St} (S : Sta K F0 T F G H r σ) {i : Nat} {ks : List Key} {ds : List D} (h : r[i]? = some (.own (.dic ks ds))) : ∃ p vs, H p = some (.dK (ks.zip vs)) ∧ σ[i]? = some (some (.ref p)) ∧ ∀ o,
    ∃ F', Ex F F' ∧ Sta K F0 T F' G (upd H p (.frz o (.dK (ks.zip vs)))) (r.set i (.sh (.dic ks ds))) σ ∧ Rep K F' (.dic ks ds) (.ref p) := by
  obtain ⟨p, h1, ⟨vs, z1, z2, z3⟩, h3, h4, h5⟩ := S.ownS h
  have hi : i < r.length := (List.getElem?_eq_some_iff.mp h).1
  refine ⟨p, vs, z1, h1, fun o => ?_⟩
  have S0 : Sta K F0 T F G H (r.set i .no) σ := by
    refine ⟨S.bas, by rw [List.length_set]; exact S.len, fun j s e => ?_, fun j k d e hjk ej ek => ?_⟩
    · by_cases hj : i = j
      · subst hj; rw [List.getElem?_set_self hi] at e; cases e; trivial
      · rw [List.getElem?_set_ne hj] at e; exact S.sl j s e
    · by_cases hj : i = j
      · subst hj; rw [List.getElem?_set_self hi] at ej; cases ej
      · by_cases hk : i = k
        · subst hk; rw [List.getElem?_set_self hi] at ek; cases ek
        · rw [List.getElem?_set_ne hj] at ej
          rw [List.getElem?_set_ne hk] at ek
          exact S.ap j k d e hjk ej ek
  obtain ⟨ef, S2, rp⟩ := S0.lock (o := o) z1 z2 z3 h3 h4 h5 fun j e hj zz => by
    by_cases hij : i = j
    · subst hij; rw [List.getElem?_set_self hi] at hj; cases hj
    · rw [List.getElem?_set_ne hij] at hj
      exact S.ap i j _ e hij h hj (h1.trans zz.symm)
  refine ⟨_, ef, ?_, rp⟩
  have := S2.set (i := i) (s := .sh (.dic ks ds)) (v := .ref p) (by rw [List.length_set]; exact hi) ⟨_, rfl, rp⟩ fun d z => nomatch z
  rw [List.set_set] at this
  have hσ : σ.set i (some (.ref p)) = σ := by
    refine List.ext_getElem? fun j => ?_
    by_cases hj : i = j
    · subst hj
      have hl : i < σ.length := by rw [← S.len]; exact hi
      rw [List.getElem?_set_self hl, h1]
    · rw [List.getElem?_set_ne hj]
  rw [hσ] at this
  exact this
/-- a dict of an own slot, as a result -/
theorem we_lockV {Q : Res → Env2 → GD → Prop} (h : WE X e r G fun x r1 G1 => ∃ i ks ds, x = .pk i ∧ r1[i]? = some (.own (.dic ks ds)) ∧ Q (.sh (.dic ks ds)) (r1.set i (.sh (.dic ks ds))) G1) : WE X e r G Q := fun F0 T F H σ lk S pins s I =>
  wpAny_mono (h F0 T F H σ lk S pins s I) (fun u s' ⟨v, H', I', rv, x, r1, G1, F1, e1, S1, k1, i, ks, ds, hx, hi, q⟩ => by
    subst hx
    obtain ⟨p, vs, z1, z2, hz⟩ := S1.lockSlot hi
    obtain ⟨k2, _⟩ := k1
    rw [k2] at z2; cases z2
    obtain ⟨o, I2⟩ := I'.lock z1 (by first | trivial | exact .inl rfl | decide)
    obtain ⟨F', ef, S2, rp⟩ := hz o
    exact ⟨.ref p, _, I2, rv, .sh (.dic ks ds), _, G1, F', e1.trans ef, S2, rp, q⟩) fun _ _ x => x
end
section
variable {X : Cy} {e a b c o tg : Expr} {es : List Expr} {st : Stmt} {sts rest body orelse : List Stmt} {r : Env2} {G : GD} {pos tpos apos cpos p0 : Pos} {D0 : EndsD}
theorem chain {op op' : CmpOp} {Q : Res → Env2 → GD → Prop} {F0 T F H : Hp} {σ : L2.St} (lk : Lk X F0 T) (S : Sta X.K F0 T F G H r σ)
    (h : WE X a r G fun x r1 G1 => WE X b r1 G1 fun y r2 G2 => ∃ da db, VwR r2 G2 x da ∧ VwR r2 G2 y db ∧ OpW X (compareOp op) da db fun z => ∃ k, z = .sh (.bl k) ∧ (k = true → WE X c r2 G2 fun w r3 G3 => ∃ db' dc, VwR r3 G3 y db' ∧ VwR r3 G3 w dc ∧ OpW X (compareOp op') db' dc fun u => Q u r3 G3) ∧ (k = false → Q (.sh (.bl false)) r2 G2)) :
    tChain (opU X (compareOp op)) (opU X (compareOp op')) (Run X a) (Run X b) (Run X c) σ H (PostE X.K F0 T F σ Q) := by
  refine (h F0 T F H σ lk S).mono fun va H1 ⟨x, r1, G1, F1, e1, S1, k1, h1⟩ => ?_
  obtain ⟨F1', e1', S1', hv⟩ := hold S1 k1
  refine (h1 F0 T F1' H1 σ lk S1').mono fun vb H2 ⟨y, r2, G2, F2, e2, S2, k2, da, db, q1, q2, q3⟩ => ?_
  obtain ⟨F2', e2', S2', hw⟩ := hold S2 k2
  obtain ⟨rr, h3, h4⟩ := q3 F0 T F2' G2 H2 r2 σ va vb S2' (hv F2' G2 H2 r2 da (e2.trans e2') S2' q1) (hw F2' G2 H2 r2 db (Ex.refl _) S2' q2)
  refine ⟨_, (show OpR X (compareOp op) (fun u w H Q' => rr u w H _ ∧ ∀ v H', _ → Q' v H') from fun pins s σ H x y v u Q' I rx ry ⟨q, m⟩ => wpAny_mono (h3 pins s σ H x y v u _ I rx ry q) (fun _ _ ⟨v, H', I', rl, q⟩ => ⟨v, H', I', rl, m v H' q⟩) fun _ _ x => x), h4, fun v H3 ⟨z, F3, e3, S3, k3, k, hz, m1, m2⟩ => ?_⟩
  subst hz
  refine ⟨k, k3, ?_⟩
  cases k with
  | false =>
    rw [if_neg Bool.false_ne_true]
    exact ⟨.sh (.bl false), r2, G2, F3, (((e1.trans e1').trans e2).trans e2').trans e3, S3, rfl, m2 rfl⟩
  | true =>
    rw [if_pos rfl]
    refine (m1 rfl F0 T F3 H3 σ lk S3).mono fun vc H4 ⟨w, r3, G3, F4, e4, S4, k4, db', dc, n1, n2, n3⟩ => ?_
    obtain ⟨rr2, h5, h6⟩ := n3 F0 T F4 G3 H4 r3 σ vb vc S4 (hw F4 G3 H4 r3 db' (e3.trans e4) S4 n1) (S4.viewR k4 n2)
    exact ⟨_, (show OpR X (compareOp op') (fun u w H Q' => rr2 u w H _ ∧ ∀ v H', _ → Q' v H') from fun pins s σ H x y v u Q' I rx ry ⟨q, m⟩ => wpAny_mono (h5 pins s σ H x y v u _ I rx ry q) (fun _ _ ⟨v, H', I', rl, q⟩ => ⟨v, H', I', rl, m v H' q⟩) fun _ _ x => x), h6, fun v H' ⟨z, F', l1, l2, l3, l4⟩ => ⟨z, r3, G3, F', (((((e1.trans e1').trans e2).trans e2').trans e3).trans e4).trans l1, l2, l3, l4⟩⟩
theorem we_chain {op op' : CmpOp} {Q : Res → Env2 → GD → Prop}
    (h : WE X a r G fun x r1 G1 => WE X b r1 G1 fun y r2 G2 => ∃ da db, VwR r2 G2 x da ∧ VwR r2 G2 y db ∧ OpW X (compareOp op) da db fun z => ∃ k, z = .sh (.bl k) ∧ (k = true → WE X c r2 G2 fun w r3 G3 => ∃ db' dc, VwR r3 G3 y db' ∧ VwR r3 G3 w dc ∧ OpW X (compareOp op') db' dc fun u => Q u r3 G3) ∧ (k = false → Q (.sh (.bl false)) r2 G2))
    (hm : lastMarks [op, op'] [b, c] = false := by with_unfolding_all rfl) : WE X (.Compare a [op, op'] [b, c] pos) r G Q := fun F0 T F H σ lk S => Run.of (pe_chain (opU_ok _) (opU_ok _) peR peR peR hm) (chain lk S h)
/-- lo <= x <= hi on ints -/
theorem we_chainI {op op' : CmpOp} {p q : Int → Int → Bool} {Q : Res → Env2 → GD → Prop} (ho : ∀ (i j : Int) (R : Res → Prop), R (.sh (.bl (p i j))) → OpW X (compareOp op) (.int i) (.int j) R) (ho' : ∀ (i j : Int) (R : Res → Prop), R (.sh (.bl (q i j))) → OpW X (compareOp op') (.int i) (.int j) R)
    (h : WE X a r G fun x r1 G1 => WE X b r1 G1 fun y r2 G2 => ∃ i j k, vw r2 x = some (.int i) ∧ vw r2 y = some (.int j) ∧ (p i j = true → WE X c r2 G2 fun w r3 G3 => r3 = r2 ∧ G3 = G2 ∧ vw r3 w = some (.int k)) ∧ Q (.sh (.bl (p i j && q j k))) r2 G2)
    (hm : lastMarks [op, op'] [b, c] = false := by with_unfolding_all rfl) : WE X (.Compare a [op, op'] [b, c] pos) r G Q :=
  we_chain (h.mono fun x r1 G1 h1 => h1.mono fun y r2 G2 ⟨i, j, k, q1, q2, q3, q4⟩ => ⟨_, _, .inl q1, .inl q2, ho i j _ ⟨p i j, rfl, fun hp => (q3 hp).mono fun w r3 G3 ⟨m1, m2, m3⟩ => ⟨_, _, .inl (by rw [m1]; exact q2), .inl m3, ho' j k _ (by subst m1 m2; rw [hp, Bool.true_and] at q4; exact q4)⟩, fun hp => by rw [hp, Bool.false_and] at q4; exact q4⟩⟩) hm
theorem wt_chainI {op op' : CmpOp} {p q : Int → Int → Bool} {Q : Bool → Env2 → GD → Prop} (ho : ∀ (i j : Int) (R : Res → Prop), R (.sh (.bl (p i j))) → OpW X (compareOp op) (.int i) (.int j) R) (ho' : ∀ (i j : Int) (R : Res → Prop), R (.sh (.bl (q i j))) → OpW X (compareOp op') (.int i) (.int j) R)
    (h : WE X a r G fun x r1 G1 => WE X b r1 G1 fun y r2 G2 => ∃ i j k, vw r2 x = some (.int i) ∧ vw r2 y = some (.int j) ∧ (p i j = true → WE X c r2 G2 fun w r3 G3 => r3 = r2 ∧ G3 = G2 ∧ vw r3 w = some (.int k)) ∧ Q (p i j && q j k) r2 G2)
    (hm : lastMarks [op, op'] [b, c] = false := by with_unfolding_all rfl) : WT X (.Compare a [op, op'] [b, c] pos) r G Q := fun F0 T F H σ lk S =>
  RunT.of (pt_chain (opU_ok _) (opU_ok _) peR peR peR hm) (by
    have base := we_chainI (pos := pos) (Q := isB Q) ho ho' (h.mono fun x r1 G1 h1 => h1.mono fun y r2 G2 ⟨i, j, k, q1, q2, q3, q4⟩ => ⟨i, j, k, q1, q2, q3, ⟨_, rfl, q4⟩⟩) hm
    have z := chain (Q := isB Q) lk S (h.mono fun x r1 G1 h1 => h1.mono fun y r2 G2 ⟨i, j, k, q1, q2, q3, q4⟩ => ⟨_, _, .inl q1, .inl q2, ho i j _ ⟨p i j, rfl, fun hp => (q3 hp).mono fun w r3 G3 ⟨m1, m2, m3⟩ => ⟨_, _, .inl (by rw [m1]; exact q2), .inl m3, ho' j k _ (by subst m1 m2; rw [hp, Bool.true_and] at q4; exact ⟨_, rfl, q4⟩)⟩, fun hp => by rw [hp, Bool.false_and] at q4; exact ⟨_, rfl, q4⟩⟩⟩)
    refine Run.mono z fun va H1 z1 => Run.mono z1 fun vb H2 ⟨rr, h3, h4⟩ => ⟨_, (show OpR X (compareOp op) (fun u w H Q' => rr u w H _ ∧ ∀ v H', _ → Q' v H') from fun pins s σ H x y v u Q' I rx ry ⟨q, m⟩ => wpAny_mono (h3 pins s σ H x y v u _ I rx ry q) (fun _ _ ⟨v, H', I', rl, q⟩ => ⟨v, H', I', rl, m v H' q⟩) fun _ _ x => x), h4, fun v H3 ⟨k, hk, hz⟩ => ⟨k, hk, ?_⟩⟩
    cases k with
    | false => rw [if_neg Bool.false_ne_true] at hz ⊢; exact postB hz
    | true =>
      rw [if_pos rfl] at hz ⊢
      refine Run.mono hz fun vc H4 ⟨rr2, h5, h6⟩ => ⟨_, (show OpR X (compareOp op') (fun u w H Q' => rr2 u w H _ ∧ ∀ v H', _ → Q' v H') from fun pins s σ H x y v u Q' I rx ry ⟨q, m⟩ => wpAny_mono (h5 pins s σ H x y v u _ I rx ry q) (fun _ _ ⟨v, H', I', rl, q⟩ => ⟨v, H', I', rl, m v H' q⟩) fun _ _ x => x), h6, fun v H' z' => postB z'⟩)
theorem ww_andB {Q : Bool → Env2 → GD → Prop} (h : WT X a r G fun c1 r1 G1 => ∃ c2, (c1 = true → WW X (.BoolOp .And (b :: es) pos) r1 G1 fun d r2 G2 => d = c2 ∧ r2 = r1 ∧ G2 = G1) ∧ Q (c1 && c2) r1 G1) : WW X (.BoolOp .And (a :: b :: es) pos) r G Q :=
  ww_and (h.mono fun c1 r1 G1 ⟨c2, h1, h2⟩ => ⟨fun hc => fun F0 T F H σ lk S w pins s I => wpAny_mono (h1 hc F0 T F H σ lk S w pins s I) (fun _ _ ⟨H', I', r', G', F', k1, k2, k3, k4, k5⟩ => ⟨H', I', r', G', F', k1, k2, by subst k3 k4 k5; rw [hc, Bool.true_and] at h2; exact h2⟩) fun _ _ x => x, fun hc => by rw [hc, Bool.false_and] at h2; exact h2⟩)
theorem ww_orB {Q : Bool → Env2 → GD → Prop} (h : WT X a r G fun c1 r1 G1 => ∃ c2, (c1 = false → WW X (.BoolOp .Or (b :: es) pos) r1 G1 fun d r2 G2 => d = c2 ∧ r2 = r1 ∧ G2 = G1) ∧ Q (c1 || c2) r1 G1) : WW X (.BoolOp .Or (a :: b :: es) pos) r G Q :=
  ww_or (h.mono fun c1 r1 G1 ⟨c2, h1, h2⟩ => ⟨fun hc => fun F0 T F H σ lk S w pins s I => wpAny_mono (h1 hc F0 T F H σ lk S w pins s I) (fun _ _ ⟨H', I', r', G', F', k1, k2, k3, k4, k5⟩ => ⟨H', I', r', G', F', k1, k2, by subst k3 k4 k5; rw [hc, Bool.false_or] at h2; exact h2⟩) fun _ _ x => x, fun hc => by rw [hc, Bool.true_or] at h2; exact h2⟩)
structure Cal (P : Program) (w : World) (K : PySem.W.Frag) (mg : Str → Option Value) (base : Heap) (x : Str) (k : Nat) (ps : List Str) (sp : FSp) : Prop where
  ex : ∃ (f : Addr) (fd : FuncData), FnOk P w K mg base (CX P w) k f fd ps (spD K sp) ∧ mg x = some (.ref f) ∧ PySem.W.keepIn K (.ref f) = true ∧ Binds K fd ps []
theorem we_cal {x : Str} {k j : Nat} {ps : List Str} {sp : FSp} {Q : Res → Env2 → GD → Prop} (tk : X.Tk) (C : Cal X.prog X.w X.K X.mg X.base x k ps sp) (hr : Room j X.A) (hg : Gl X x) (h : WA X (e :: es) r G fun ds r1 G1 => sp ds G1 (fun z G2 => Q z r1 G2) (fun x G2 => X.QX x r1 G2)) (hj : k ≤ j := by omega)
    (hdb : (x == ("__debug__" : Str)) = false := by decide) (he : starEach (e :: es) X.env = (false, eval e X.env) :: starEach es X.env := by rfl) (hpl : (backTo pos (starEach es X.env)).any (·.1) = false := by rfl) : WE X (.Call (.Name x p0) (e :: es) [] pos) r G Q := by
  obtain ⟨f, fd, h1, h2, h3, h4⟩ := C.ex
  exact we_call tk h1 (hr.mono hj) hg h2 h3 h4 h hdb he hpl
structure PropD (P : Program) (w : World) (K : PySem.W.Frag) (mg : Str → Option Value) (base : Heap) (C : Addr) (f : Str) (k : Nat) (sp : FSp) : Prop where
  ex : ∃ (p g : Addr) (fd : FuncData), PySem.W.findIn K (.ref C) f = some (some (.ref p)) ∧ PySem.W.specialIn K (.ref p) "__get__" = some (some (.builtin "property.__get__")) ∧ PySem.W.takesIn K (.ref p) = some true ∧ (∃ rest, PySem.W.recIn K p "property" = some (.ref g :: rest)) ∧
    FnOk P w K mg base (CX P w) k g fd ["self"] (spD K sp) ∧ Binds K fd ["self"] []
theorem fnr {P : Program} {w : World} {K : PySem.W.Frag} {mg : Str → Option Value} {base : Heap} {CX : CXT} {k : Nat} {f : Addr} {fd : FuncData} {ps : List Str} {sp : Sp} (F : FnOk P w K mg base CX k f fd ps sp) (hb : Binds K fd ps []) : FnR P w K mg base CX k f sp :=
  (F.raw hb .nil).imp fun vs H Q E h => by rw [List.append_nil]; exact h
/-- a promise met from a state, no exception leaves -/
theorem spD_of0 {F0 T F F1 H : Hp} {σ : L2.St} {sp : FSp} {ds : List D} {vs : List V} {Q : Res → Env2 → GD → Prop} (S : Sta X.K F0 T F1 G H r σ) (e1 : Ex F F1) (ha : RepL X.K F1 ds vs) (h : sp ds G (fun z G2 => Q z r G2) (fun _ _ => False)) : spD X.K sp vs H (PostE X.K F0 T F σ Q) (fun _ _ _ => False) :=
  ⟨F1, G, ds, _, _, S.bas.fh, S.bas.gh, S.bas.fg, ha, h, fun x G' v H' F' hp B rt => ⟨x, r, G', F', e1.trans B.ff, S.after B, ResOk.after S B rt, hp⟩, fun x cls d G' H' F' hp B ex => hp⟩
theorem we_prop {f : Str} {C : Addr} {k j : Nat} {sp : FSp} {Q : Res → Env2 → GD → Prop} (c : SlX.SCls X.K C) (p : PropD X.prog X.w X.K X.mg X.base C f k sp) (hr : Room j X.A) (h : WE X e r G fun x r1 G1 => ∃ ds, vw r1 x = some (.ins C ds) ∧ sp [.ins C ds] G1 (fun z G2 => Q z r1 G2) (fun _ _ => False)) (hj : k + 1 ≤ j := by omega)
    (hb : attributeBase e f X.env (eval e X.env) = eval e X.env := by rfl) : WE X (.Attribute e f pos) r G Q := fun F0 T F H σ lk S => by
  obtain ⟨pa, g, fd, h1, h2, h3, h4, h5, h6⟩ := p.ex
  refine Run.of (SlX.pe_propSl (E := fun _ _ _ => False) peR c h1 h2 h3 h4 (fnr h5 h6) (hr.mono hj) (fun _ _ _ _ ⟨_, _, _, _, _, _, _, _, _, _, _, _, z⟩ => z) hb) ((h F0 T F H σ lk S).mono fun v H1 ⟨x, r1, G1, F1, e1, S1, k1, ds, q1, q2⟩ => ?_)
  obtain ⟨F1', e1', S1', hv⟩ := hold S1 k1
  have vv := hv F1' G1 H1 r1 _ (Ex.refl _) S1' (.inl q1)
  have rp : Rep X.K F1' (.ins C ds) v := by
    rcases vv with z | ⟨_, _, z⟩
    · exact z
    · exact z.elim
  obtain ⟨a, dx, vs, rfl, z1, z2⟩ := vv.ins S1'.bas.fh
  exact ⟨a, dx, vs.map some, rfl, z1, spD_of0 S1' (e1.trans e1') (.one rp) q2⟩
/-- a slot is read -/
theorem we_fld {f : Str} {C p : Addr} (i : Nat) {Q : Res → Env2 → GD → Prop} (c : SlX.SCls X.K C) (t : SlX.Slot1 X.K C f p i) (h : WE X e r G fun x r1 G1 => ∃ ds d, vw r1 x = some (.ins C ds) ∧ ds[i]? = some d ∧ Q (.sh d) r1 G1)
    (hb : attributeBase e f X.env (eval e X.env) = eval e X.env := by rfl) : WE X (.Attribute e f pos) r G Q := fun F0 T F H σ lk S => by
  refine Run.of (SlX.pe_sl peR hb) ((h F0 T F H σ lk S).mono fun v H1 ⟨x, r1, G1, F1, e1, S1, k1, ds, d, q1, q2, q3⟩ => ?_)
  obtain ⟨a, dx, vs, rfl, z1, z2⟩ := (S1.view k1 q1).ins S1.bas.fh
  obtain ⟨w, y1, y2⟩ := z2.get q2
  exact ⟨a, C, dx, p, vs.map some, i, w, rfl, z1, c, t, by rw [List.getElem?_map, y1]; rfl, .sh d, r1, G1, F1, e1, S1, y2, q3⟩
structure MethD (P : Program) (w : World) (K : PySem.W.Frag) (mg : Str → Option Value) (base : Heap) (C : Addr) (m : Str) (k : Nat) (ps : List Str) (sp : FSp) : Prop where
  ex : ∃ (g : Addr) (fd : FuncData), Meth K C m g ∧ FnOk P w K mg base (CX P w) k g fd ps (spD K sp) ∧ Binds K fd ps []
/-- as HandS.Slots' own, the wish by the slots -/
theorem run_fnRS {X : Cx} {CX : CXT} {k : Nat} {f : Addr} {sp : Sp} {E : L2.St → XK} {pins : List (Addr × Obj)} {σ : L2.St} {H : Hp} {s : Shared} {Q : VK} {us : List Value} {vs : List V} (F : FnR X.prog X.w X.K X.mg X.base CX k f sp) (hr : Room k X.A) (hx : PassesAt CX X σ (E σ)) (I : Inv X pins σ H s) (r : Vals vs us) (q : sp vs H Q (E σ)) :
    wpAny (model X.prog X.w) X.A (call (.ref f) us) (EP X pins σ Q) X.xe s := by
  refine wpAny_call (codeAny_mono (F X.A X.stack s H us vs Q (E σ) hr I.env0 r q) fun r s' hq => ?_)
  cases r with
  | error e => exact hx pins H s e s' I hq
  | ok fl =>
    cases fl with
    | ret u => exact I.after hq
    | next => exact False.elim hq
    | brk => exact False.elim hq
    | cont => exact False.elim hq
/-- the class of data, as far as isinstance asks -/
def tyD : D → Option Value
  | .non => some (.type "NoneType")
  | .bl _ => some (.type "bool")
  | .int _ => some (.type "int")
  | .str _ => some (.type "str")
  | .tup _ => some (.type "tuple")
  | .lst _ => some (.type "list")
  | .dic _ _ => some (.type "dict")
  | _ => none
theorem tyX_of {K : PySem.W.Frag} {F H : Hp} {d : D} {v : V} {t : Value} (ex : Ex F H) (h : Vw K F H d v) (e : tyD d = some t) : TyX K H v t := by
  cases d with
  | non => cases e; cases h.non; exact .base .non
  | bl b => cases e; cases h.bl; exact .base (.bl b)
  | int b => cases e; cases h.int; exact .base (.int b)
  | str b => cases e; cases h.str; exact .base (.str b)
  | tup ds =>
    cases e
    obtain ⟨a, vs, rfl, z1, _⟩ := h.tup ex
    rcases z1 with (z | ⟨ob, z⟩) | ⟨ob, its, n, z, zc, _⟩
    · exact .base (.tup z)
    · exact .fTuple z
    · exact .kTuple z zc
  | lst ds =>
    cases e
    obtain ⟨a, vs, rfl, z1, _⟩ := h.lst ex
    rcases z1 with z | ⟨ob, z⟩
    · exact .base (.lst z)
    · exact .base (.frz z)
  | dic ks ds =>
    cases e
    obtain ⟨a, vs, rfl, z1, _⟩ := h.dic ex
    rcases z1 with z | ⟨ob, z⟩
    · exact .base (.dK z)
    · exact .fDict z
  | ins C ds => cases e
  | adr a => cases e
  | obj _ _ _ => cases e
  | slo _ _ _ _ => cases e
  | xdo _ _ => cases e
  | scr _ => cases e
  | tab _ => cases e
  | hob _ _ => cases e
  | kd _ _ _ => cases e
/-- isinstance(x, T), T a built-in class -/
theorem we_isi {x y : Str} {n : String} {py : Pos} {Q : Res → Env2 → GD → Prop} (hg : Gl X x) (hm : X.mg x = none) (hv : bootBuiltins x = some (.builtin "isinstance")) (hg2 : Gl X y) (hm2 : X.mg y = none) (hv2 : bootBuiltins y = some (.type n))
    (h : WE X a r G fun z r1 G1 => ∃ d t c, VwR r1 G1 z d ∧ tyD d = some t ∧ PySem.W.kitOne X.K t (.type n) = some c ∧ Q (.sh (.bl c)) r1 G1)
    (hn : x ≠ "__name__" := by decide) (hdb : (x == ("__debug__" : Str)) = false := by decide) (hn2 : y ≠ "__name__" := by decide) (hdb2 : (y == ("__debug__" : Str)) = false := by decide)
    (he : starEach [a, .Name y py] X.env = (false, eval a X.env) :: starEach [.Name y py] X.env := by rfl) (he2 : starEach [.Name y py] X.env = (false, eval (.Name y py) X.env) :: starEach [] X.env := by rfl) (hpl : (backTo pos (starEach [.Name y py] X.env)).any (·.1) = false := by rfl) :
    WE X (.Call (.Name x p0) [a, .Name y py] [] pos) r G Q := fun F0 T F H σ lk S =>
  Run.of (pe_callB call_isi hg hm hv (pa_cons peR (pa_cons (pe_bltn (v := .ty n) hg2 hm2 hv2 rfl hn2 hdb2) pa_nil he2) he) hn hdb he hpl) ((h F0 T F H σ lk S).mono fun v H1 ⟨z, r1, G1, F1, e1, S1, k1, d, t, c, q1, q2, q3, q4⟩ =>
    ⟨v, .ty n, t, .type n, c, rfl, .ty n, tyX_of S1.bas.fh (S1.viewR k1 q1) q2, q3, .sh (.bl c), r1, G1, F1, e1, S1, rfl, q4⟩)
abbrev FSpI := List D → GD → (List D → GD → Prop) → (Exn → GD → Prop) → Prop
def spI (K : PySem.W.Frag) (C : Addr) (f : FSpI) : Sp := fun vs H Q E => ∃ (x dx : Addr) (us : List V) (F : Hp) (G : GD) (ds : List D) (post : List D → GD → Prop) (px : Exn → GD → Prop), vs = .ref x :: us ∧ H x = some (.ins C dx []) ∧ H dx = some (.own x) ∧ dx ≠ x ∧ F x = none ∧ F dx = none ∧ G x = none ∧ G dx = none ∧
  Ex F H ∧ (∀ a d, G a = some d → Own K F H a d) ∧ (∀ a o, G a = some o → F a = none) ∧ RepL K F ds us ∧ f ds G post px ∧
  (∀ ys G' H' F', post ys G' → Bas K F (fun a => if a = x ∨ a = dx then none else Tof G H a) F' G' H' → Rep K F' (.ins C ys) (.ref x) → Q .non H') ∧
  ∀ xn cls d G' H' F', px xn G' → Bas K F (fun a => if a = x ∨ a = dx then none else Tof G H a) F' G' H' → ExOk K F' cls d xn → E cls d H'
structure MakeD (P : Program) (w : World) (K : PySem.W.Frag) (mg : Str → Option Value) (base : Heap) (x : Str) (C : Addr) (k : Nat) (ps : List Str) (f : FSpI) : Prop where
  ex : ∃ (g : Addr) (fd : FuncData), Mk K C g ∧ mg x = some (.ref C) ∧ FnOk P w K mg base (CX P w) k g fd ps (spI K C f) ∧ Binds K fd ps []
def tMakeS (C : Addr) (sp : Sp) (E : L2.St → XK) (t : TA) : TE := fun σ H Q => t σ H fun vs H1 => ∀ x dx, H1 x = none → H1 dx = none → dx ≠ x →
  sp (.ref x :: vs) (upd (upd H1 dx (.own x)) x (.ins C dx [])) (fun v H2 => v = .non ∧ Q (.ref x) H2) (E σ)
theorem run_makeS {X : Cx} {CX : CXT} {k : Nat} {f C : Addr} {fd : FuncData} {ps : List Str} {sp : Sp} {E : L2.St → XK} {pins : List (Addr × Obj)} {σ : L2.St} {H : Hp} {s : Shared} {Q : VK} {us : List Value} {vs : List V} (M : Mk X.K C f) (F : FnOk X.prog X.w X.K X.mg X.base CX k f fd ps sp) (hr : Room (k + 1) X.A) (hb : Binds X.K fd ps [])
    (hx : PassesAt CX X σ (E σ)) (I : Inv X pins σ H s) (r : Vals vs us)
    (h : ∀ x dx, H x = none → H dx = none → dx ≠ x → sp (.ref x :: vs) (upd (upd H dx (.own x)) x (.ins C dx [])) (fun v H2 => v = .non ∧ Q (.ref x) H2) (E σ)) :
    wpAny (model X.prog X.w) X.A (call (.ref C) us) (EP X pins σ Q) X.xe s := by
  have hq := h (s.heap.objs.size + 1) s.heap.objs.size (I.hok.fresh (Nat.le_succ _)) (I.hok.fresh (Nat.le_refl _)) (Nat.ne_of_lt (Nat.lt_succ_self _))
  have I2 := Inv.made (C := C) I
  have r2 : Vals (V.ref (s.heap.objs.size + 1) :: vs) (Value.ref (s.heap.objs.size + 1) :: us) := .cons rfl r
  have hl : (Value.ref (s.heap.objs.size + 1) :: us ++ []).length = ps.length := by
    rw [List.append_nil]
    have e := r2.length
    rw [F.len _ _ _ _ hq] at e
    exact e.symm
  have hbb := hb _ (Value.ref (s.heap.objs.size + 1) :: us) I2.kIn hl
  rw [List.append_nil] at hbb
  refine wpAny_call (make_map (f := f) I.kIn M.makes M.init (beq_iff_eq.mp M.fn) (codeAny_mono (F.run _ X.stack _ _ ⟨Value.ref (s.heap.objs.size + 1) :: us, []⟩ (Value.ref (s.heap.objs.size + 1) :: us) _ _ (E σ) (hr.make C us [])
    (I2.env0.make C us []) hbb r2 hq) fun r s' hq' => ?_))
  cases r with
  | error e => exact hx pins _ _ e s' I2 hq'
  | ok fl =>
    cases fl with
    | ret u =>
      obtain ⟨v, H', I3, rv, ev, q3⟩ := I2.after hq'
      subst ev
      exact ⟨rv, ⟨V.ref (s.heap.objs.size + 1), H', I3, rfl, q3⟩⟩
    | next => exact False.elim hq'
    | brk => exact False.elim hq'
    | cont => exact False.elim hq'
theorem pe_makeS {X : Cx} {CX : CXT} {k : Nat} {f C : Addr} {fd : FuncData} {ps : List Str} {sp : Sp} {E : L2.St → XK} {x : Str} {p : Pos} {t : TA} (M : Mk X.K C f) (F : FnOk X.prog X.w X.K X.mg X.base CX k f fd ps sp) (hr : Room (k + 1) X.A) (hg : Gl X x) (hm : X.mg x = some (.ref C)) (hb : Binds X.K fd ps []) (hx : ∀ σ, PassesAt CX X σ (E σ))
    (ha : PA X (e :: es) t) (hdb : (x == ("__debug__" : Str)) = false := by decide) (he : starEach (e :: es) X.env = (false, eval e X.env) :: starEach es X.env := by rfl) (hpl : (backTo pos (starEach es X.env)).any (·.1) = false := by rfl) :
    PE X (.Call (.Name x p) (e :: es) [] pos) (tMakeS C sp E t) := by
  refine ⟨fun pins s σ H Q I h => ?_⟩
  refine wpAny_Call_Name_kw (ld_glob I hg hm ?_ hdb)
  refine PySem.W.callWith_K (h₀ := X.base) I.ok.mod.kin M.kp (thn (ha.run pos pins s σ H _ I h) fun us s1 ⟨vs, H1, I1, r, q⟩ => ⟨I1.kIn, ?_⟩) he hpl
  exact run_makeS M F hr hb (hx σ) I1 r q
theorem make_base {K : PySem.W.Frag} {F1 F' H1 H' : Hp} {G1 G' : GD} {ad dx C : Addr} (ha : H1 ad = none) (hd : H1 dx = none) (ex1 : Ex H1 (upd (upd H1 dx (.own ad)) ad (.ins C dx [])))
    (B : Bas K F1 (fun a => if a = ad ∨ a = dx then none else Tof G1 (upd (upd H1 dx (.own ad)) ad (.ins C dx [])) a) F' G' H') : Bas K F1 (Tof G1 H1) F' G' H' := by
  have sub : ∀ q u, Tof G1 H1 q = some u → (if q = ad ∨ q = dx then none else Tof G1 (upd (upd H1 dx (.own ad)) ad (.ins C dx [])) q) = some u := fun q u hq => by
    have hG : G1 q = none := by
      cases eg : G1 q with
      | none => rfl
      | some o => rw [Tof_some eg] at hq; cases hq
    rw [Tof_none hG] at hq
    have n1 : q ≠ ad := ne_of_none hq ha
    have n2 : q ≠ dx := ne_of_none hq hd
    rw [if_neg (by simp [n1, n2]), Tof_none hG]
    exact ex1 q u hq
  have down : ∀ q, (if q = ad ∨ q = dx then none else Tof G1 (upd (upd H1 dx (.own ad)) ad (.ins C dx [])) q) = none → Tof G1 H1 q = none := fun q z => by
    cases et : Tof G1 H1 q with
    | none => rfl
    | some w => rw [sub q w et] at z; cases z
  exact ⟨B.ff, fun q u hq => (B.ft q u hq).imp id (down q), B.fh, B.gh, B.fg, fun q u hq => down q (B.gt q u hq), fun q u hq => B.tk q u (sub q u hq)⟩
theorem we_make {x : Str} {C : Addr} {k j : Nat} {ps : List Str} {f : FSpI} {Q : Res → Env2 → GD → Prop} (tk : X.Tk) (M : MakeD X.prog X.w X.K X.mg X.base x C k ps f) (hr : Room j X.A) (hg : Gl X x) (h : WA X (e :: es) r G fun ds r1 G1 => f ds G1 (fun ys G2 => Q (.sh (.ins C ys)) r1 G2) (fun xn G2 => X.QX xn r1 G2)) (hj : k + 1 ≤ j := by omega)
    (hdb : (x == ("__debug__" : Str)) = false := by decide) (he : starEach (e :: es) X.env = (false, eval e X.env) :: starEach es X.env := by rfl) (hpl : (backTo pos (starEach es X.env)).any (·.1) = false := by rfl) : WE X (.Call (.Name x p0) (e :: es) [] pos) r G Q := fun F0 T F H σ lk S => by
  obtain ⟨g, fd, h1, h2, h3, h4⟩ := M.ex
  refine Run.of (pe_makeS h1 h3 (hr.mono hj) hg h2 h4 (fun σ => passAt tk σ) paR hdb he hpl) ((h F0 T F H σ lk S).mono fun vs H1 ⟨ds, r1, G1, F1, e1, S1, k1, q1⟩ => ?_)
  intro ad dx ha hd hne
  obtain ⟨f1, f2, f3⟩ := S1.bas.freshF ha
  obtain ⟨g1, g2, g3⟩ := S1.bas.freshF hd
  have ex1 : Ex H1 (upd (upd H1 dx (.own ad)) ad (.ins C dx [])) := fun q u hq => by
    rw [upd_ne (ne_of_none hq ha), upd_ne (ne_of_none hq hd)]; exact hq
  refine ⟨ad, dx, vs, F1, G1, ds, _, _, rfl, upd_same, by rw [upd_ne hne, upd_same], hne, f1, g1, f2, g2, S1.bas.fh.trans ex1, S1.bas.gmono (Ex.refl _) fun a o _ h => ex1 a o h, S1.bas.fg, k1, q1, fun ys G' H' F' hp B rp => ⟨rfl, ?_⟩, fun xn cls d G' H' F' hp B ex => ?_⟩
  · have B' := make_base ha hd ex1 B
    exact ⟨.sh (.ins C ys), r1, G', F', e1.trans B'.ff, S1.after B', rp, hp⟩
  · have B' := make_base ha hd ex1 B
    exact ⟨r1, G', F', xn, lk.sta (S1.after B'), ex, hp⟩
/-- a block, then statements by hand -/
theorem execs_app (env : Env) (post : List Stmt) : ∀ pre : List Stmt, execs (pre ++ post) env = execs pre env >>= fun f => match f with
    | .next => execs post env
    | f => pure f
  | [] => by
    rw [List.nil_append, execs, pure_bind]
  | st :: pre => by
    rw [List.cons_append, execs, execs, bind_assoc]
    congr 1
    funext f
    cases f with
    | next => exact execs_app env post pre
    | brk => rw [pure_bind]
    | cont => rw [pure_bind]
    | ret v => rw [pure_bind]
theorem runB_then {pre post : List Stmt} {E : Ends} {σ : L2.St} {H : Hp} (h : RunB X pre { E with nx := fun σ' H' => RunB X post E σ' H' } σ H) : RunB X (pre ++ post) E σ H := fun pins s I => by
  rw [execs_app]
  refine wpAny_bind (wpAny_mono (h pins s I) (fun f s' q => ?_) fun _ _ x => x)
  cases f with
  | next => obtain ⟨σ', H', I', q⟩ := q; exact q pins s' I'
  | brk => exact wpAny_pure q
  | cont => exact wpAny_pure q
  | ret v => exact wpAny_pure q
end
theorem bt_len : bootBuiltins "len" = some (.builtin "len") := by decide +kernel
theorem bt_int : bootBuiltins "int" = some (.type "int") := by decide +kernel
theorem bt_list : bootBuiltins "list" = some (.type "list") := by decide +kernel
theorem bt_tuple : bootBuiltins "tuple" = some (.type "tuple") := by decide +kernel
theorem bt_dict : bootBuiltins "dict" = some (.type "dict") := by decide +kernel
theorem bt_bool : bootBuiltins "bool" = some (.type "bool") := by decide +kernel
theorem bt_str : bootBuiltins "str" = some (.type "str") := by decide +kernel
theorem bt_sorted : bootBuiltins "sorted" = some (.builtin "sorted") := by decide +kernel
theorem bt_isinstance : bootBuiltins "isinstance" = some (.builtin "isinstance") := by decide +kernel
theorem bt_min : bootBuiltins "min" = some (.builtin "min") := by decide +kernel
theorem bt_max : bootBuiltins "max" = some (.builtin "max") := by decide +kernel
section
variable {prog : Program} {w : World} {A : Around} {E : Value → Shared → Prop} {s : Shared}
abbrev tIt (t : Addr) : Obj := { cls := .type "tuple_iterator", data := .fields #[.ref t, .int 0 0] }
abbrev enO (i : Addr) : Obj := { cls := .type "enumerate", data := .fields #[.none, .bool false, .ref i, rawInt 0, .none, .none] }
theorem meets_enumT (t : Addr) (its : Array Value) (o : Obj) (n : Nat) (ho : o.cls = .type "tuple" ∧ o.data = .seq its n) :
    Meets (Builtin.«enumerate.__new__» ⟨[.type "enumerate", .ref t], []⟩) (fun _ R s => s.heap.get? t = some o ∧
      R (.ok (.ret (.ref (s.heap.push (tIt t)).objs.size))) { s with heap := (s.heap.push (tIt t)).push (enO s.heap.objs.size) }) :=
  .of_wp fun prog w A R s h => by
    obtain ⟨c, dc, dt, sl⟩ := o
    obtain ⟨h1, h2⟩ := ho
    cases h1
    obtain ⟨hp, g, d, tk, os⟩ := s; obtain ⟨hl, h⟩ := h
    have sub := sub_enumerate
    have tup : Heap.IsTuple (Shared.heap ⟨hp, g, d, tk, os⟩) t its := ⟨_, hl, rfl, _, h2⟩
    wp_walk using AutoSeq1.wpAny_loadPart' hl
    refine wpAny_stack_any fun st => wpAny_pure ?_
    split
    · rename_i c _ _ _ _ _
      cases (c == Value.type "enumerate")
      all_goals
        wp_walk using AutoSeq1.wpAny_loadPart' hl, wpAny_pyIter_tuple tup
        exact ⟨_, rfl, h⟩
    · wp_walk using AutoSeq1.wpAny_loadPart' hl, wpAny_pyIter_tuple tup
      exact ⟨_, rfl, h⟩
theorem callEnumT {t : Addr} {its : Array Value} {Q : Value → Shared → Prop} (ht : s.heap.IsTuple t its)
    (h : ∀ h', IsEnum h' (s.heap.objs.size + 1) s.heap.objs.size 0 .none → h'.IsTupleIter s.heap.objs.size t 0 → (∀ b o, s.heap.get? b = some o → h'.get? b = some o) → Q (.ref (s.heap.objs.size + 1)) { s with heap := h' }) :
    wpAny (model prog w) A (call (.type "enumerate") [.ref t]) Q E s := by
  obtain ⟨o, ho, hc, n, hd⟩ := ht
  refine callType_new F.called_enumerate (by decide) (F.typeCall_enumerate_1 _) (F.newCall_enumerate_1 _) (fun obj => F.args_object_init_2 obj _) F.entry_enumerate_new (meets_enumT t its o n ⟨hc, hd⟩) ⟨ho, ?_⟩
  have z : (s.heap.push (tIt t)).objs.size = s.heap.objs.size + 1 := Heap.size_push ..
  show _ ∧ _
  rw [z]
  have he : IsEnum ((s.heap.push (tIt t)).push (enO s.heap.objs.size)) (s.heap.objs.size + 1) s.heap.objs.size 0 .none := by
    have q := Heap.get?_push_size (s.heap.push (tIt t)) (o := enO s.heap.objs.size) rfl
    rw [z] at q
    exact q
  exact ⟨⟨_, he, rfl⟩, h _ he ⟨_, Heap.get?_push_of_some _ (Heap.get?_push_size _ rfl), rfl, rfl⟩ fun b o x => Heap.get?_push_of_some _ (Heap.get?_push_of_some _ x)⟩
end
/-- the tuple at a, each item in a new pair -/
def ItU (K : PySem.W.Frag) (a : Addr) : It :=
  ⟨fun i H => ∃ (xs : List V) (x : V), SqT K H a xs ∧ xs[i]? = some x, fun i H v H' => ∃ T x, v = .ref T ∧ H T = none ∧ H' = upd H T (.tup [.int (i : Nat), x]) ∧ ∀ xs, SqT K H a xs → xs[i]? = some x, fun i H => ∃ xs : List V, SqT K H a xs ∧ xs.length = i⟩
theorem turn_enumT {P : Program} {w : World} {K : PySem.W.Frag} {elts : List Expr} {kk : Nat} {tpos : Pos} (a e it : Addr) (hae : a ≠ e) (hai : a ≠ it) :
    Turn P w K (.Tuple elts kk tpos) (ItU K a) [e, it] e (fun i h => (∃ old, IsEnum h e it ((i : Nat) : Int) old) ∧ h.IsTupleIter it a i ∧ e ≠ it) where
  mem := by simp
  obj := fun i h st b hb => by
    obtain ⟨⟨old, he⟩, ⟨o, ho, hc, hd⟩, _⟩ := st
    rcases (by simpa using hb : b = e ∨ b = it) with z | z
    · rw [z]; exact ⟨_, he, fun v q => nomatch q⟩
    · rw [z]; exact ⟨o, ho, fun v q => by rw [hd] at q; cases q⟩
  keep := fun i h h' ⟨⟨old, he⟩, hi, hne⟩ k => ⟨⟨old, k e (by simp) _ he⟩, hi.at fun o q => k it (by simp) o q, hne⟩
  item := by
    intro X hP hw hK hc i pins s σ H E I hf st hg
    subst hP hw hK
    obtain ⟨⟨old, he⟩, hit, hne⟩ := st
    obtain ⟨xs, x, hq, hx⟩ := hg
    obtain ⟨its, rv, p, hz⟩ := I.tuple hq
    obtain ⟨u, hu, ru⟩ := rv.get hx
    have hel : e < s.heap.objs.size := Heap.lt_size he
    have hil : it < s.heap.objs.size := by obtain ⟨_, q, _⟩ := hit; exact Heap.lt_size q
    have dr := Draws.tuple (prog := X.prog) (w := X.w) (A := X.A.in1) (I.ok.hd hc) it a hai its.toArray
    have lt : i < its.toArray.size := by
      have := (List.getElem?_eq_some_iff.mp hu).1
      simpa using this
    refine wpAny_pyNext_enum_itemD dr he ⟨hit, p⟩ lt hne (by simp [hne, hae.symm]) fun x' h' tk hv ho hit' hT hsz hk => ?_
    have ex : x' = u := by
      have : its[i]? = some x' := by simpa using hv
      rw [hu] at this; cases this; rfl
    subst ex
    refine ⟨_, rfl, wpAny_letOwnedTupleGo_enum (s := { s with heap := h', toks := tk + 1 }) ho fun h'' he' sb => ?_⟩
    have hT2 : h''.get? s.heap.objs.size = some { cls := .type "tuple", data := .seq #[.int i tk, x'] } := (sb.2 _ (Nat.ne_of_gt hel)).trans hT
    have new : ObjOk X.prog X.w (upd H s.heap.objs.size (.tup [.int (i : Nat), x])) h'' s.heap.objs.size (.tup [.int (i : Nat), x]) :=
      ⟨by show 2 ≤ sizeLine; decide, [.int i tk, x'], .cons ⟨_, rfl⟩ (.cons ru .nil), ⟨_, hT2, rfl, _, rfl⟩⟩
    have I1 : Inv X pins σ (upd H s.heap.objs.size (.tup [.int (i : Nat), x])) { s with heap := h'', toks := tk + 1 } :=
      I.turnedNew (ch := [e, it]) (fun b ob hb q => (sb.2 b (fun z => hb (by simp [z]))).trans (hk b ob (fun z => hb (by simp [z])) (fun z => hb (by simp [z])) q)) hf (Nat.le_refl _) new
    refine ⟨.ref s.heap.objs.size, _, I1, rfl, ⟨_, x, rfl, I.hok.fresh (Nat.le_refl _), rfl, fun ys hy => by rw [I.tuple_inj hy hq]; exact hx⟩, ⟨⟨x', he'⟩, hit'.1.at fun o q => (sb.2 it (Ne.symm hne)).trans q, hne⟩, fun b hb => ?_⟩
    have hb' : b < s.heap.objs.size := by
      rcases (by simpa using hb : b = e ∨ b = it) with z | z
      · rw [z]; exact hel
      · rw [z]; exact hil
    rw [upd_ne (Nat.ne_of_lt hb')]
    exact (hf b hb).1
  done := by
    intro X hP hw hK hc i pins s σ H E I hf st hg
    subst hP hw hK
    obtain ⟨⟨old, he⟩, hit, hne⟩ := st
    obtain ⟨xs, hq, hx⟩ := hg
    obtain ⟨its, rv, p, hz⟩ := I.tuple hq
    obtain ⟨f0, f1, f2, f3, f4, f5⟩ := hf it (by simp)
    have hl : its.toArray.size = i := by
      have := rv.length
      simp
      omega
    subst hl
    exact wpAny_pyNext_enum_endD (Draws.tuple (prog := X.prog) (w := X.w) (A := X.A.in1) (I.ok.hd hc) it a hai its.toArray) he ⟨hit, p⟩ fun h' eb => ⟨rfl, I.turned (t' := s.toks) (fun b o hb q => eb b o hb q) f0 f1 f3 f4 f5⟩
  self := fun A i s Q E ⟨⟨_, he⟩, _⟩ h => wpAny_pyIter_enum he h
def iEnumT (K : PySem.W.Frag) (ta : TA) : TI := fun σ H R => ta σ H fun vs H1 => ∃ a xs, vs = [.ref a] ∧ SqT K H1 a xs ∧ R (ItU K a) H1
theorem pi_enumT {X : Cx} {e : Expr} {ta : TA} {p pos tpos : Pos} {elts : List Expr} {kk : Nat} (hg : Gl X "enumerate") (hm : X.mg "enumerate" = none) (ha : PA X [e] ta) (hs : starEach [e] X.env = [(false, eval e X.env)] := by rfl) :
    PI X (.Tuple elts kk tpos) (.Call (.Name "enumerate" p) [e] [] pos) (iEnumT X.K ta) := by
  refine ⟨fun pins s σ H R I h => ?_⟩
  refine Call_ (ld_blt I hg hm boot_enumerate (PyProof.Rows.callWith_type1 (thn (ha.run pos pins s σ H _ I h) fun us s1 ⟨vs, H1, I1, r1, q1⟩ => ?_) hs rfl))
  obtain ⟨a, xs, ex, hq, q⟩ := q1
  subst ex
  cases r1 with
  | cons rl rr =>
    cases rr
    cases rl
    obtain ⟨its, rv, p', hz⟩ := I1.tuple hq
    have ha : a < s1.heap.objs.size := by obtain ⟨_, z, _⟩ := p'; exact Heap.lt_size z
    refine callEnumT (show s1.heap.IsTuple a its.toArray from p') fun h' he hit hk => wpAny_pyIter_enum he ?_
    refine ⟨s1.heap.objs.size + 1, [s1.heap.objs.size + 1, s1.heap.objs.size], _, _, H1, rfl, I1.kept (t' := s1.toks) hk, turn_enumT a (s1.heap.objs.size + 1) s1.heap.objs.size (Nat.ne_of_lt (Nat.lt_succ_of_lt ha)) (Nat.ne_of_lt ha), ⟨⟨.none, he⟩, hit, Nat.succ_ne_self _⟩, fun b hb => ?_, q⟩
    have hle : s1.heap.objs.size ≤ b := by
      rcases (by simpa using hb : b = s1.heap.objs.size + 1 ∨ b = s1.heap.objs.size) with z | z
      · rw [z]; exact Nat.le_succ _
      · rw [z]; exact Nat.le_refl _
    exact I1.fpOk hle (I1.hok.fresh hle)
def enumD (k : Nat) : List D → List D
  | [] => []
  | d :: ds => .tup [.int (k : Nat), d] :: enumD (k + 1) ds
theorem enumD_len : ∀ (ds : List D) (k : Nat), (enumD k ds).length = ds.length
  | [], _ => rfl
  | d :: ds, k => by unfold enumD; rw [List.length_cons, List.length_cons, enumD_len ds]
theorem enumD_get : ∀ {ds : List D} {k i : Nat} {x : D}, (enumD k ds)[i]? = some x → ∃ d, ds[i]? = some d ∧ x = .tup [.int ((k + i : Nat) : Int), d]
  | [], k, i, x, h => by simp [enumD] at h
  | d :: ds, k, 0, x, h => by
    unfold enumD at h
    simp at h
    exact ⟨d, rfl, h.symm⟩
  | d :: ds, k, i + 1, x, h => by
    unfold enumD at h
    rw [List.getElem?_cons_succ] at h
    obtain ⟨d', h1, h2⟩ := enumD_get h
    exact ⟨d', by rw [List.getElem?_cons_succ]; exact h1, by rw [h2, show k + 1 + i = k + (i + 1) by omega]⟩
theorem rep_pair {K : PySem.W.Frag} {F : Hp} {p : Addr} {d1 d2 : D} {v1 v2 : V} (hp : F p = none) (h1 : Rep K F d1 v1) (h2 : Rep K F d2 v2) : Rep K (upd F p (.tup [v1, v2])) (.tup [d1, d2]) (.ref p) :=
  ⟨p, [v1, v2], rfl, .inl (.inl upd_same), v1, [v2], rfl, Rep.mono (Ex.new hp) _ _ h1, .one (Rep.mono (Ex.new hp) _ _ h2)⟩
theorem none_F {F H : Hp} (e : Ex F H) {p : Addr} (h : H p = none) : F p = none := none_of e h
section
variable {X : Cy} {e e2 a b c o tg : Expr} {es elts : List Expr} {kk : Nat} {st : Stmt} {sts rest body orelse : List Stmt} {r : Env2} {G : GD} {pos tpos apos cpos p0 : Pos} {D0 : EndsD}
theorem wi_enumL {Q : List D → Env2 → GD → Prop} (hg : Gl X "enumerate") (hm : X.mg "enumerate" = none) (h : WE X a r G fun x r1 G1 => ∃ ds r2, fz r1 x = some (.lst ds, r2) ∧ (ds.length ≤ LIM → Q (enumD 0 ds) r2 G1)) (hst : starEach [a] X.env = [(false, eval a X.env)] := by rfl) :
    WI X (.Tuple elts kk tpos) (.Call (.Name "enumerate" p0) [a] [] pos) r G Q := fun F0 T F H σ lk S =>
  RunI.of (pi_enum hg hm (pa_cons peR pa_nil hst) hst) ((h F0 T F H σ lk S).bl.mono fun v H1 ⟨bl, x, r1, G1, F1, e1, S1, k1, ds, r2, q1, q2⟩ => by
    obtain ⟨Fa, e2, Sa, rp⟩ := S1.fz k1 q1
    obtain ⟨ad, vs, rfl, z1, z2⟩ := rp
    have hlim : ds.length ≤ LIM := by rw [← z2.length]; exact bl.1 ad vs (.inl (Sa.bas.fh.rd z1))
    refine ⟨ad, vs, rfl, .inl (Sa.bas.fh.rd z1), enumD 0 ds, r2, G1, Fa, e1.trans e2, Sa, fun F H ea eh => ⟨⟨vs, .inl (eh.rd (ea.rd z1)), by rw [enumD_len, z2.length]; exact Nat.le_refl _⟩, fun i d hi => ?_⟩, q2 hlim⟩
    obtain ⟨d', hd, rfl⟩ := enumD_get hi
    obtain ⟨v, h1, h2⟩ := z2.get hd
    refine ⟨⟨vs, v, .inl (eh.rd (ea.rd z1)), h1⟩, fun x H' ⟨p, y, hx, hp, hH, hy⟩ => .inr ⟨p, _, hp, hH, hx, ?_⟩⟩
    have := hy vs (.inl (eh.rd (ea.rd z1)))
    rw [h1] at this; cases this
    rw [Nat.zero_add]
    exact rep_pair (none_F eh hp) rfl (Rep.mono ea _ _ h2))
theorem wi_enumT {Q : List D → Env2 → GD → Prop} (hg : Gl X "enumerate") (hm : X.mg "enumerate" = none) (h : WE X a r G fun x r1 G1 => ∃ ds r2, fz r1 x = some (.tup ds, r2) ∧ (ds.length ≤ LIM → Q (enumD 0 ds) r2 G1)) (hst : starEach [a] X.env = [(false, eval a X.env)] := by rfl) :
    WI X (.Tuple elts kk tpos) (.Call (.Name "enumerate" p0) [a] [] pos) r G Q := fun F0 T F H σ lk S =>
  RunI.of (pi_enumT hg hm (pa_cons peR pa_nil hst) hst) ((h F0 T F H σ lk S).bl.mono fun v H1 ⟨bl, x, r1, G1, F1, e1, S1, k1, ds, r2, q1, q2⟩ => by
    obtain ⟨Fa, e2, Sa, rp⟩ := S1.fz k1 q1
    obtain ⟨ad, vs, rfl, z1, z2⟩ := rp
    have hlim : ds.length ≤ LIM := by rw [← z2.length]; exact bl.2.1 ad vs (Sa.bas.fh.sqT z1)
    refine ⟨ad, vs, rfl, Sa.bas.fh.sqT z1, enumD 0 ds, r2, G1, Fa, e1.trans e2, Sa, fun F H ea eh => ⟨⟨vs, eh.sqT (ea.sqT z1), by rw [enumD_len, z2.length]⟩, fun i d hi => ?_⟩, q2 hlim⟩
    obtain ⟨d', hd, rfl⟩ := enumD_get hi
    obtain ⟨v, h1, h2⟩ := z2.get hd
    refine ⟨⟨vs, v, eh.sqT (ea.sqT z1), h1⟩, fun x H' ⟨p, y, hx, hp, hH, hy⟩ => .inr ⟨p, _, hp, hH, hx, ?_⟩⟩
    have := hy vs (eh.sqT (ea.sqT z1))
    rw [h1] at this; cases this
    rw [Nat.zero_add]
    exact rep_pair (none_F eh hp) rfl (Rep.mono ea _ _ h2))
theorem rev_get {α : Type} {xs : List α} {i : Nat} {x : α} (h : xs.reverse[i]? = some x) : i < xs.length ∧ xs[xs.length - 1 - i]? = some x := by
  have hi : i < xs.length := by
    have := (List.getElem?_eq_some_iff.mp h).1
    rw [List.length_reverse] at this; exact this
  rw [List.getElem?_reverse hi] at h
  exact ⟨hi, h⟩
theorem wi_revL {Q : List D → Env2 → GD → Prop} (hg : Gl X "reversed") (hm : X.mg "reversed" = none) (h : WE X a r G fun x r1 G1 => ∃ ds r2, fz r1 x = some (.lst ds, r2) ∧ (ds.length ≤ LIM → Q ds.reverse r2 G1)) (hst : starEach [a] X.env = (false, eval a X.env) :: starEach [] X.env := by rfl) :
    WI X tg (.Call (.Name "reversed" p0) [a] [] pos) r G Q := fun F0 T F H σ lk S =>
  RunI.of (RT.pi_revA hg hm peR hst) ((h F0 T F H σ lk S).bl.mono fun v H1 ⟨bl, x, r1, G1, F1, e1, S1, k1, ds, r2, q1, q2⟩ => by
    obtain ⟨Fa, e2, Sa, rp⟩ := S1.fz k1 q1
    obtain ⟨ad, vs, rfl, z1, z2⟩ := rp
    have hlim : ds.length ≤ LIM := by rw [← z2.length]; exact bl.1 ad vs (.inl (Sa.bas.fh.rd z1))
    refine ⟨ad, vs, rfl, .inl ⟨.inl (Sa.bas.fh.rd z1), ds.reverse, r2, G1, Fa, e1.trans e2, Sa, fun F H ea eh => ⟨by rw [List.length_reverse, z2.length]; exact Nat.le_refl _, fun i d hi => ?_⟩, q2 hlim⟩⟩
    obtain ⟨hlt, hd⟩ := rev_get hi
    rw [← z2.length] at hlt hd
    obtain ⟨v, h1, h2⟩ := z2.get hd
    refine ⟨⟨hlt, vs, v, .inl (eh.rd (ea.rd z1)), h1⟩, fun x H' ⟨hH, hy⟩ => .inl ⟨hH, ?_⟩⟩
    have := hy vs (.inl (eh.rd (ea.rd z1)))
    rw [h1] at this; cases this
    exact Rep.mono ea _ _ h2)
def kD : Key → D
  | .inl n => .int n
  | .inr s => .str s
theorem kD_rep {K : PySem.W.Frag} {F : Hp} (k : Key) : Rep K F (kD k) (kV k) := by cases k <;> rfl
theorem zip_get' {α β : Type} {xs : List α} {ys : List β} {i : Nat} {p : α × β} (h : (xs.zip ys)[i]? = some p) : xs[i]? = some p.1 ∧ ys[i]? = some p.2 := by
  obtain ⟨a, b⟩ := p
  exact List.getElem?_zip_eq_some.mp h
theorem zip_len {α β : Type} {xs : List α} {ys : List β} (h : xs.length = ys.length) : (xs.zip ys).length = xs.length := by rw [List.length_zip, h, Nat.min_self]
theorem Vw.loc {K : PySem.W.Frag} {F0 T F : Hp} {G : GD} {H : Hp} {r r2 : Env2} {σ : L2.St} {x : Res} {v : V} {ks : List Key} {ds : List D} (S : Sta K F0 T F G H r σ) (h : ResOk K T F G H r σ x v) (e : fz r x = some (.dic ks ds, r2)) : r2 = r ∧ Rep K F (.dic ks ds) v := by
  cases x with
  | sh d => cases e; exact ⟨rfl, h⟩
  | fr d =>
    have e' : (if isDic d then none else some (d, r)) = some (.dic ks ds, r2) := e
    split at e'
    · cases e'
    · rename_i hd
      cases e'
      exact absurd rfl hd
  | pk i =>
    obtain ⟨h1, d', h2⟩ := h
    have e' : (match r[i]? with | some (.own d) => if isDic d then none else some (d, r.set i (.sh d)) | _ => none) = some (.dic ks ds, r2) := e
    rw [h2] at e'
    dsimp only at e'
    split at e'
    · cases e'
    · rename_i hd
      cases e'
      exact absurd rfl hd
theorem wi_keys {Q : List D → Env2 → GD → Prop} (h : WE X e r G fun x r1 G1 => ∃ ks ds r2, fz r1 x = some (.dic ks ds, r2) ∧ (ks.length ≤ LIM → Q (ks.map kD) r2 G1)) : WI X tg e r G Q := fun F0 T F H σ lk S =>
  RunI.of (pi_keys peR) ((h F0 T F H σ lk S).bl.mono fun v H1 ⟨bl, x, r1, G1, F1, e1, S1, k1, ks, ds, r2, q1, q2⟩ => by
    obtain ⟨rfl, rp⟩ := Vw.loc S1 k1 q1
    obtain ⟨ad, ob, vs, rfl, z1, z2, z3⟩ := rp
    have hl : ks.length = vs.length := by rw [z3.length]; exact z2
    have hlim : ks.length ≤ LIM := by have := bl.2.2 ad _ (.inr ⟨ob, S1.bas.fh _ _ z1⟩); rw [zip_len hl] at this; exact this
    refine ⟨ad, ob, rfl, .inl ⟨_, S1.bas.fh _ _ z1, ks.map kD, r2, G1, F1, e1, S1, fun F H ea eh => ⟨⟨eh _ _ (ea _ _ z1), by rw [List.length_map, zip_len hl]; exact Nat.le_refl _⟩, fun i d hi => ?_⟩, q2 hlim⟩⟩
    rw [List.getElem?_map] at hi
    cases hk : ks[i]? with
    | none => rw [hk] at hi; cases hi
    | some k =>
      rw [hk] at hi
      cases hi
      have hlt : i < ks.length := (List.getElem?_eq_some_iff.mp hk).1
      refine ⟨⟨eh _ _ (ea _ _ z1), by rw [zip_len hl]; exact hlt⟩, fun x H' ⟨hH, k', v', hy, hx⟩ => .inl ⟨hH, ?_⟩⟩
      have := (zip_get' hy).1
      rw [hk] at this; cases this
      subst hx
      exact kD_rep _)
end
theorem rep_kD {K : PySem.W.Frag} {F : Hp} {k : Key} {v : V} (h : Rep K F (kD k) v) : v = kV k := by
  cases k with
  | inl i => exact h
  | inr x => exact h
def putD (acc : List (Key × D)) (k : Key) (d : D) : List (Key × D) :=
  if (acc.any fun kv => decide (kv.1 = k)) = true then acc.map (fun kv => if kv.1 = k then (kv.1, d) else kv) else acc ++ [(k, d)]
def DRep (K : PySem.W.Frag) (F : Hp) : List (Key × D) → List (Key × V) → Prop
  | [], us => us = []
  | p :: acc, us => ∃ u us', us = u :: us' ∧ u.1 = p.1 ∧ Rep K F p.2 u.2 ∧ DRep K F acc us'
theorem DRep.mono {K : PySem.W.Frag} {F F' : Hp} (e : Ex F F') : ∀ {acc : List (Key × D)} {us : List (Key × V)}, DRep K F acc us → DRep K F' acc us
  | [], _, h => h
  | p :: acc, _, ⟨u, us', h1, h2, h3, h4⟩ => ⟨u, us', h1, h2, Rep.mono e _ _ h3, h4.mono e⟩
theorem DRep.length {K : PySem.W.Frag} {F : Hp} : ∀ {acc : List (Key × D)} {us : List (Key × V)}, DRep K F acc us → us.length = acc.length
  | [], _, h => by rw [show _ = [] from h]; rfl
  | p :: acc, _, ⟨u, us', h1, h2, h3, h4⟩ => by rw [h1, List.length_cons, List.length_cons, h4.length]
theorem DRep.keys {K : PySem.W.Frag} {F : Hp} : ∀ {acc : List (Key × D)} {us : List (Key × V)}, DRep K F acc us → us.map (·.1) = acc.map (·.1)
  | [], _, h => by rw [show _ = [] from h]; rfl
  | p :: acc, _, ⟨u, us', h1, h2, h3, h4⟩ => by rw [h1, List.map_cons, List.map_cons, h4.keys, h2]
theorem DRep.vals {K : PySem.W.Frag} {F : Hp} : ∀ {acc : List (Key × D)} {us : List (Key × V)}, DRep K F acc us → RepL K F (acc.map (·.2)) (us.map (·.2))
  | [], _, h => by rw [show _ = [] from h]; rfl
  | p :: acc, _, ⟨u, us', h1, h2, h3, h4⟩ => by subst h1; exact ⟨u.2, us'.map (·.2), rfl, h3, h4.vals⟩
theorem DRep.of {K : PySem.W.Frag} {F : Hp} : ∀ {ks : List Key} {ds : List D} {vs : List V}, ks.length = ds.length → RepL K F ds vs → DRep K F (ks.zip ds) (ks.zip vs)
  | [], _, _, _, _ => by rw [List.zip_nil_left, List.zip_nil_left]; rfl
  | k :: ks, [], _, h, _ => by simp at h
  | k :: ks, d :: ds, _, h, ⟨v, vs', h1, h2, h3⟩ => by subst h1; exact ⟨(k, v), ks.zip vs', rfl, rfl, h2, DRep.of (by simpa using h) h3⟩
theorem DRep.append {K : PySem.W.Frag} {F : Hp} : ∀ {acc bcc : List (Key × D)} {us ws : List (Key × V)}, DRep K F acc us → DRep K F bcc ws → DRep K F (acc ++ bcc) (us ++ ws)
  | [], _, _, _, h, h' => by rw [show _ = [] from h]; exact h'
  | p :: acc, _, _, _, ⟨u, us', h1, h2, h3, h4⟩, h' => by subst h1; exact ⟨u, us' ++ _, rfl, h2, h3, h4.append h'⟩
theorem DRep.any {K : PySem.W.Frag} {F : Hp} (k : Key) : ∀ {acc : List (Key × D)} {us : List (Key × V)}, DRep K F acc us → (us.any fun kv => decide (kv.1 = k)) = acc.any fun kv => decide (kv.1 = k)
  | [], _, h => by rw [show _ = [] from h]; rfl
  | p :: acc, _, ⟨u, us', h1, h2, h3, h4⟩ => by subst h1; rw [List.any_cons, List.any_cons, h4.any k, h2]
theorem DRep.over {K : PySem.W.Frag} {F : Hp} {k : Key} {d : D} {v : V} (hv : Rep K F d v) : ∀ {acc : List (Key × D)} {us : List (Key × V)}, DRep K F acc us → DRep K F (acc.map fun kv => if kv.1 = k then (kv.1, d) else kv) (us.map fun kv => if kv.1 = k then (kv.1, v) else kv)
  | [], _, h => by rw [show _ = [] from h]; rfl
  | p :: acc, _, ⟨u, us', h1, h2, h3, h4⟩ => by
    subst h1
    refine ⟨_, _, List.map_cons, ?_, ?_, h4.over hv⟩
    · dsimp only
      rw [h2]
      by_cases hk : p.1 = k
      · rw [if_pos hk, if_pos hk]
      · rw [if_neg hk, if_neg hk]; exact h2
    · dsimp only
      rw [h2]
      by_cases hk : p.1 = k
      · rw [if_pos hk, if_pos hk]; exact hv
      · rw [if_neg hk, if_neg hk]; exact h3
theorem DRep.put {K : PySem.W.Frag} {F : Hp} {k : Key} {d : D} {v : V} {acc : List (Key × D)} {us : List (Key × V)} (h : DRep K F acc us) (hv : Rep K F d v) : DRep K F (putD acc k d) (putK us k v) := by
  unfold putD putK
  rw [h.any k]
  by_cases hk : (acc.any fun kv => decide (kv.1 = k)) = true
  · rw [if_pos hk, if_pos hk]; exact h.over hv
  · rw [if_neg hk, if_neg hk]; exact h.append ⟨(k, v), [], rfl, rfl, hv, rfl⟩
theorem zip_maps {α β : Type} : ∀ us : List (α × β), (us.map (·.1)).zip (us.map (·.2)) = us
  | [] => rfl
  | u :: us => by rw [List.map_cons, List.map_cons, List.zip_cons_cons, zip_maps us]
def dicD (acc : List (Key × D)) : D := .dic (acc.map (·.1)) (acc.map (·.2))
theorem own_dicD {K : PySem.W.Frag} {F H : Hp} {p : Addr} {acc : List (Key × D)} {us : List (Key × V)} (h : DRep K F acc us) (hp : H p = some (.dK us)) : Own K F H p (dicD acc) := by
  refine ⟨us.map (·.2), ?_, by rw [List.length_map, List.length_map], h.vals⟩
  rw [← h.keys, zip_maps]
  exact hp
section
variable {X : Cy} {e a b c o tg kx vx : Expr} {es : List Expr} {st : Stmt} {sts rest body orelse : List Stmt} {r : Env2} {G : GD} {pos tpos p0 : Pos} {D0 : EndsD}
def DcTurn (X : Cy) (scope : Scope) (tg kx vx : Expr) (ifs : List Expr) (is : List Nat) (d : D) (acc : List (Key × D)) (r : Env2) (G : GD) (Nx : List (Key × D) → Env2 → GD → Prop) : Prop :=
  ∀ Y, BlkX X scope Y → WG Y tg d r G is fun r1 G1 => match ifs with
    | [] => ∀ Y, BlkX X scope Y → WE Y kx r1 G1 fun z r2 G2 => ∃ k, z = .sh (kD k) ∧ ∀ Y, BlkX X scope Y → WE Y vx r2 G2 fun z' r3 G3 => ∃ d' r4, fz r3 z' = some (d', r4) ∧ acc.length < LIM ∧ Nx (putD acc k d') (wipeD r4 is) G3
    | [c] => ∀ Y, BlkX X scope Y → WT Y c r1 G1 fun b r2 G2 => (b = true → ∀ Y, BlkX X scope Y → WE Y kx r2 G2 fun z r3 G3 => ∃ k, z = .sh (kD k) ∧ ∀ Y, BlkX X scope Y → WE Y vx r3 G3 fun z' r4 G4 => ∃ d' r5, fz r4 z' = some (d', r5) ∧ acc.length < LIM ∧ Nx (putD acc k d') (wipeD r5 is) G4) ∧ (b = false → Nx acc (wipeD r2 is) G2)
    | _ => False
theorem dc_turn {scope : Scope}  {ifs : List Expr} {is : List Nat} {d : D} {acc : List (Key × D)} {Nx : List (Key × D) → Env2 → GD → Prop} {F0 T F H : Hp} {σ : L2.St} {v : V} {L : Addr} {us : List (Key × V)}
    (lk : Lk X F0 T) (S : Sta X.K F0 (upd T L (.dK us)) F G H r (L2.wipe σ is)) (hT : T L = none) (h0 : F0 L = none) (ha : DRep X.K F0 acc us) (rp : Rep X.K F d v) (h : DcTurn X scope tg kx vx ifs is d acc r G Nx) {Pn : Hp → Prop}
    (hN : ∀ acc' us' r' G' F' H', Nx acc' r' G' → DRep X.K F' acc' us' → Sta X.K F0 (upd T L (.dK us')) F' G' H' r' (L2.wipe σ is) → Pn H') :
    blkG X scope tg v (L2.wipe σ is) H fun σ2 H2 => L2.wipe σ2 is = L2.wipe σ is ∧ blkT X scope ifs σ2 H2 fun b H3 =>
      if b = true then blkE X scope kx σ2 H3 fun y H4 => blkE X scope vx σ2 H4 fun z H5 => ∃ kvs k, y = kV k ∧ H5 L = some (.dK kvs) ∧ kvs.length < sizeLine ∧ Pn (upd H5 L (.dK (putK kvs k z))) else Pn H3 := by
  have wi : L2.wipe (L2.wipe σ is) is = L2.wipe σ is := by
    have aux : ∀ (js : List Nat) (τ : L2.St), (∀ j ∈ js, ∀ x, τ[j]? = some x → x = none) → L2.wipe τ js = τ := by
      intro js
      induction js with
      | nil => intro τ _; rfl
      | cons j js ih =>
        intro τ hτ
        unfold L2.wipe
        rw [ih τ fun k hk => hτ k (List.mem_cons_of_mem _ hk)]
        refine List.ext_getElem? fun k => ?_
        by_cases hjk : j = k
        · subst hjk
          by_cases hl : j < τ.length
          · rw [List.getElem?_set_self hl]
            cases e : τ[j]? with
            | none => rw [List.getElem?_eq_none_iff] at e; omega
            | some x => rw [hτ j List.mem_cons_self x e]
          · rw [List.getElem?_eq_none (by rw [List.length_set]; omega), List.getElem?_eq_none (by omega)]
        · rw [List.getElem?_set_ne hjk]
    refine aux is _ fun j hj x hx => ?_
    cases x with
    | none => rfl
    | some y => exact absurd hj (wipe_some hx).2
  have fin : ∀ (F2 : Hp) (G2 : GD) (H4 : Hp) (r2 r3 : Env2) (σ2 : L2.St) (z : Res) (y : V) (k : Key) (d' : D), L2.wipe σ2 is = L2.wipe σ is → Sta X.K F0 (upd T L (.dK us)) F2 G2 H4 r2 σ2 → ResOk X.K (upd T L (.dK us)) F2 G2 H4 r2 σ2 z y → fz r2 z = some (d', r3) → acc.length < LIM → Nx (putD acc k d') (wipeD r3 is) G2 →
      ∃ kvs k', kV k = kV k' ∧ H4 L = some (.dK kvs) ∧ kvs.length < sizeLine ∧ Pn (upd H4 L (.dK (putK kvs k' y))) := fun F2 G2 H4 r2 r3 σ2 z y k d' hw S2 k2 q1 q2 q3 => by
    obtain ⟨F3, e3, S3, rp3⟩ := S2.fz k2 q1
    have hL : H4 L = some (.dK us) := S3.bas.tk L _ upd_same
    have ha3 : DRep X.K F3 acc us := DRep.mono S3.bas.ff ha
    have fL : F3 L = none := by
      cases e : F3 L with
      | none => rfl
      | some u =>
        rcases S3.bas.ft L u e with zz | zz
        · rw [h0] at zz; cases zz
        · rw [upd_same] at zz; cases zz
    have gL : G2 L = none := by
      cases e : G2 L with
      | none => rfl
      | some u => have zz := S3.bas.gt L u e; rw [upd_same] at zz; cases zz
    refine ⟨us, k, rfl, hL, by rw [ha3.length]; exact lim_lt q2, hN _ (putK us k y) _ G2 F3 _ q3 (ha3.put rp3) ?_⟩
    have Sw := S3.wipe is hw
    refine ⟨⟨Sw.bas.ff, fun q u hq => ?_, fun q u hq => ?_, fun q u hq => ?_, Sw.bas.fg, fun q u hq => ?_, fun q u hq => ?_⟩, Sw.len, fun i s hs => ?_, Sw.ap⟩
    · have hqL : q ≠ L := fun zz => by subst zz; rw [fL] at hq; cases hq
      have := Sw.bas.ft q u hq
      rw [upd_ne hqL] at this ⊢
      exact this
    · have hqL : q ≠ L := fun zz => by subst zz; rw [fL] at hq; cases hq
      rw [upd_ne hqL]; exact Sw.bas.fh q u hq
    · have hqL : q ≠ L := fun zz => by subst zz; rw [gL] at hq; cases hq
      exact (Sw.bas.gh q u hq).mono (Ex.refl _) fun o ho => by rw [upd_ne hqL]; exact ho
    · have hqL : q ≠ L := fun zz => by subst zz; rw [gL] at hq; cases hq
      have := Sw.bas.gt q u hq
      rw [upd_ne hqL] at this ⊢
      exact this
    · by_cases hqL : q = L
      · subst hqL; rw [upd_same] at hq ⊢; exact hq
      · rw [upd_ne hqL] at hq ⊢
        exact Sw.bas.tk q u (by rw [upd_ne hqL]; exact hq)
    · have hh := Sw.sl i s hs
      cases s with
      | no => trivial
      | sh d => exact hh
      | own d =>
        obtain ⟨p, k1, k3, k4, k5, k6⟩ := hh
        have hpL : p ≠ L := fun zz => by subst zz; rw [upd_same] at k6; cases k6
        rw [upd_ne hpL] at k6
        exact ⟨p, k1, k3.mono (Ex.refl _) (fun u hu => by rw [upd_ne hpL]; exact hu), k4, k5, by rw [upd_ne hpL]; exact k6⟩
  intro Y hY pins s u I rv
  have lk' : Lk X F0 (upd T L (.dK us)) := lk.ext (Ex.new hT)
  have hYK : Y.K = X.K := hY.k
  have h' := h Y hY
  unfold WG at h'
  rw [hYK] at h'
  refine wpAny_mono (h' F0 (upd T L (.dK us)) F H (L2.wipe σ is) v (hY.lk lk') S rp pins s u I rv) (fun _ s' ⟨σ', H', I', hw, r', G', F', e', S', q⟩ => ⟨σ', H', I', hw.trans wi, ?_⟩) fun _ _ x => x
  have hw' := hw.trans wi
  match ifs, q with
  | [], q =>
    unfold blkT
    dsimp only
    rw [if_pos rfl]
    intro Z hZ
    have q' := q Z hZ
    unfold WE at q'
    rw [hZ.k] at q'
    refine (q' F0 _ F' H' σ' (hZ.lk lk') S').mono fun y H4 ⟨z, r2, G2, F2, e2, S2, k2, k, hz, m1⟩ => ?_
    subst hz
    cases rep_kD (K := X.K) k2
    intro W hW
    have q2 := m1 W hW
    unfold WE at q2
    rw [hW.k] at q2
    exact (q2 F0 _ F2 H4 σ' (hW.lk lk') S2).mono fun u H5 ⟨z', r3, G3, F3, e3, S3, k3, d', r4, n1, n2, n3⟩ => fin F3 G3 H5 r3 r4 σ' z' u k d' hw' S3 k3 n1 n2 n3
  | [c], q =>
    intro Z hZ
    have q' := q Z hZ
    unfold WT at q'
    rw [hZ.k] at q'
    refine (q' F0 _ F' H' σ' (hZ.lk lk') S').mono fun b H3 ⟨r2, G2, F2, e2, S2, m1, m2⟩ => ?_
    cases b with
    | true =>
      rw [if_pos rfl]
      intro W hW
      have q2 := m1 rfl W hW
      unfold WE at q2
      rw [hW.k] at q2
      refine (q2 F0 _ F2 H3 σ' (hW.lk lk') S2).mono fun y H4 ⟨z, r3, G3, F3, e3, S3, k3, k, hz, n1⟩ => ?_
      subst hz
      cases rep_kD (K := X.K) k3
      intro V hV
      have q3 := n1 V hV
      unfold WE at q3
      rw [hV.k] at q3
      exact (q3 F0 _ F3 H4 σ' (hV.lk lk') S3).mono fun u H5 ⟨z', r4, G4, F4, e4, S4, k4, d', r5, p1, p2, p3⟩ => fin F4 G4 H5 r4 r5 σ' z' u k d' hw' S4 k4 p1 p2 p3
    | false =>
      rw [if_neg Bool.false_ne_true]
      exact hN acc us _ G2 F2 H3 (m2 rfl) (DRep.mono S2.bas.ff ha) (S2.wipe is hw')
  | _ :: _ :: _, q => exact q.elim
/-- what a comprehension's loop keeps -/
def DcInv (K : PySem.W.Frag) (T Fa : Hp) (τ : L2.St) (L : Addr) (I : List (Key × D) → Env2 → GD → Prop) : Hp → Prop := fun H' =>
  ∃ acc us r' G' F', DRep K F' acc us ∧ Sta K Fa (upd T L (.dK us)) F' G' H' r' τ ∧ I acc r' G'
theorem dc_begin {K : PySem.W.Frag} {F0 T F H : Hp} {σ : L2.St} {is : List Nat} {L : Addr} {I : List (Key × D) → Env2 → GD → Prop} (S : Sta K F0 T F G H r σ) (hL : H L = none) (h0 : I [] (wipeD r is) G) : DcInv K T F (L2.wipe σ is) L I (upd H L (.dK [])) := by
  obtain ⟨f1, f2, f3⟩ := S.bas.freshF hL
  have Sb := (S.newH (o := .dK []) hL).base.wipe (σ := σ) is rfl
  refine ⟨[], [], _, G, F, rfl, ⟨⟨Sb.bas.ff, fun q u hq => .inl hq, Sb.bas.fh, Sb.bas.gh, Sb.bas.fg, fun q u hq => ?_, fun q u hq => ?_⟩, Sb.len, fun i s hs => ?_, Sb.ap⟩, h0⟩
  · have hq' : q ≠ L := fun z => by subst z; rw [f2] at hq; cases hq
    rw [upd_ne hq']; exact Sb.bas.gt q u hq
  · by_cases hq' : q = L
    · subst hq'; rw [upd_same] at hq ⊢; exact hq
    · rw [upd_ne hq'] at hq; exact Sb.bas.tk q u hq
  · have hh := Sb.sl i s hs
    cases s with
    | no => trivial
    | sh d => exact hh
    | own d =>
      obtain ⟨p, k1, k2, k3, k4, k5⟩ := hh
      have hp : p ≠ L := fun z => by
        subst z
        by_cases hi : i ∈ is
        · have : (L2.wipe σ is)[i]? ≠ some (some (V.ref p)) := fun z => (wipe_some z).2 hi
          exact this k1
        · have e := (wipe_some k1).1
          have hr : r[i]? = some (.own d) := by
            have aux : ∀ (js : List Nat), i ∉ js → (wipeD r js)[i]? = r[i]? := by
              intro js
              induction js with
              | nil => intro _; rfl
              | cons j js ih =>
                intro hj
                unfold wipeD
                rw [List.getElem?_set_ne (fun z => hj (by rw [z]; exact List.mem_cons_self)), ih (fun z => hj (List.mem_cons_of_mem _ z))]
            rw [aux is hi] at hs
            exact hs
          exact S.freshR hL i d hr e
      exact ⟨p, k1, k2, k3, k4, by rw [upd_ne hp]; exact k5⟩
theorem dc_end {K : PySem.W.Frag} {F0 T Fa : Hp} {Ga : GD} {Ha H' : Hp} {σ : L2.St} {is : List Nat} {L : Addr} {I : List (Key × D) → Env2 → GD → Prop} {Q : Res → Env2 → GD → Prop} (B : Bas K F0 T Fa Ga Ha) (hL : Ha L = none) (hσ : Wk r (wipeD r is)) (S0 : Sta K F0 T Fa Ga Ha r σ) (h : DcInv K T Fa (L2.wipe σ is) L I H') (he : ∀ acc r' G', I acc r' G' → Q (.fr (dicD acc)) r' G') :
    PostE K F0 T Fa σ Q (.ref L) H' := by
  obtain ⟨acc, us, r', G', F', ha, S, q⟩ := h
  obtain ⟨f1, f2, f3⟩ := B.freshF hL
  have fL : F' L = none := by
    cases e : F' L with
    | none => rfl
    | some u =>
      rcases S.bas.ft L u e with zz | zz
      · rw [f1] at zz; cases zz
      · rw [upd_same] at zz; cases zz
  have gL : G' L = none := by
    cases e : G' L with
    | none => rfl
    | some u => have zz := S.bas.gt L u e; rw [upd_same] at zz; cases zz
  have tsub : ∀ q u, T q = some u → upd T L (.dK us) q = some u := fun q u hq => by
    have hqL : q ≠ L := fun zz => by subst zz; rw [f3] at hq; cases hq
    rw [upd_ne hqL]; exact hq
  have tdown : ∀ q, upd T L (.dK us) q = none → T q = none := fun q hq => by
    cases hf : T q with
    | none => rfl
    | some u => rw [tsub q u hf] at hq; cases hq
  have slots : ∀ (i : Nat) (s : Sl), r'[i]? = some s → SlotOk K T F' G' H' s σ[i]? := fun i s hs => by
    have hh := S.sl i s hs
    cases s with
    | no => trivial
    | sh d => obtain ⟨v, k1, k2⟩ := hh; exact ⟨v, (wipe_some k1).1, k2⟩
    | own d => obtain ⟨p, k1, k2, k3, k4, k5⟩ := hh; exact ⟨p, (wipe_some k1).1, k2, k3, k4, tdown p k5⟩
  have St : Sta K F0 T F' G' H' r' σ := by
    refine ⟨⟨B.ff.trans S.bas.ff, fun q u hq => ?_, S.bas.fh, S.bas.gh, S.bas.fg, fun q u hq => tdown q (S.bas.gt q u hq), fun q u hq => S.bas.tk q u (tsub q u hq)⟩, by rw [S.len, wipe_length], slots, fun i j d e hij hi hj z => ?_⟩
    · rcases S.bas.ft q u hq with zz | zz
      · exact B.ft q u zz
      · exact .inr (tdown q zz)
    · obtain ⟨p, k1, _⟩ := S.ownS hi
      obtain ⟨p2, m1, _⟩ := S.ownS hj
      refine S.ap i j d e hij hi hj ?_
      rw [(wipe_some k1).1, (wipe_some m1).1] at z
      rw [k1, m1, z]
  refine ⟨.fr (dicD acc), r', G', F', S.bas.ff, St, ⟨L, rfl, own_dicD ha (S.bas.tk L _ upd_same), fL, gL, f3, fun i d hi z => ?_⟩, he acc r' G' q⟩
  obtain ⟨p, k1, _, _, _, k5⟩ := S.ownS hi
  have e1 := (wipe_some k1).1
  rw [e1] at z; cases z
  rw [upd_same] at k5; cases k5
/-- one step of a comprehension over items -/
theorem dc_step {scope : Scope} {ifs : List Expr} {is : List Nat} {d : D} {J : It} {ds : List D} {i : Nat} {T Fa : Hp} {H H' : Hp} {σ : L2.St} {v : V} {L : Addr} {I I' : List (Key × D) → Env2 → GD → Prop} (lk : Lk X Fa T) (hL : Fa L = none) (hT : T L = none) (hJ : ItD X.K J Fa ds) (hi : ds[i]? = some d) (h : DcInv X.K T Fa (L2.wipe σ is) L I H) (y : J.yld i H v H')
    (hs : ∀ acc r' G', I acc r' G' → DcTurn X scope tg kx vx ifs is d acc r' G' I') :
    blkG X scope tg v (L2.wipe σ is) H' fun σ2 H2 => L2.wipe σ2 is = L2.wipe σ is ∧ blkT X scope ifs σ2 H2 fun b H3 =>
      if b = true then blkE X scope kx σ2 H3 fun y H4 => blkE X scope vx σ2 H4 fun z H5 => ∃ kvs k, y = kV k ∧ H5 L = some (.dK kvs) ∧ kvs.length < sizeLine ∧ DcInv X.K T Fa (L2.wipe σ is) L I' (upd H5 L (.dK (putK kvs k z))) else DcInv X.K T Fa (L2.wipe σ is) L I' H3 := by
  obtain ⟨acc, us, r', G', F1, ha1, S1, q⟩ := h
  obtain ⟨F', ef, S, rp⟩ := hJ.item S1.bas.ff S1 hi y
  have ha := DRep.mono ef ha1
  have fL : F' L = none := by
    cases e : F' L with
    | none => rfl
    | some u =>
      rcases S.bas.ft L u e with zz | zz
      · rw [hL] at zz; cases zz
      · rw [upd_same] at zz; cases zz
  have lk' : Lk X F' T := ⟨lk.t, lk.f.trans S.bas.ff, fun a o ho => (S.bas.ft a o ho).elim (fun z => lk.ft a o z) fun z => .inr (none_of lk.t (none_of (Ex.new hT) z))⟩
  refine dc_turn lk' S.base hT fL ha rp (hs acc r' G' q) fun acc' us' r2 G2 F2 H2 q2 ha2 S2 => ?_
  refine ⟨acc', us', r2, G2, F2, ha2, ⟨⟨S.bas.ff.trans S2.bas.ff, fun q u hq => ?_, S2.bas.fh, S2.bas.gh, S2.bas.fg, S2.bas.gt, S2.bas.tk⟩, S2.len, S2.sl, S2.ap⟩, q2⟩
  rcases S2.bas.ft q u hq with zz | zz
  · rcases S.bas.ft q u zz with yy | yy
    · exact .inl yy
    · by_cases hqL : q = L
      · subst hqL; rw [fL] at zz; cases zz
      · rw [upd_ne hqL] at yy ⊢; exact .inr yy
  · exact .inr zz
theorem we_dc {scope : Scope} {ifs : List Expr} (own : List (Str × Nat)) {Q : Res → Env2 → GD → Prop} (hc : X.calm = true) (hN : X.N.Nodup) (ok : BlkOk X.N X.env.scope scope own)
    (h : WI X tg e r G fun ds r2 G1 => ∃ I : Nat → List (Key × D) → Env2 → GD → Prop, I 0 [] (wipeD r2 (own.map (·.2))) G1 ∧ (∀ (k : Nat) (d : D) (acc : List (Key × D)) (r3 : Env2) (G3 : GD), ds[k]? = some d → I k acc r3 G3 → DcTurn X scope tg kx vx ifs (own.map (·.2)) d acc r3 G3 (I (k + 1))) ∧
      ∀ acc r3 G3, I ds.length acc r3 G3 → Q (.fr (dicD acc)) r3 G3) (hs : ∀ x, foldedSetIterable e X.env x = pure x := by intro _; rfl) : WE X (.DictComp kx vx [⟨tg, e, ifs, 0⟩] scope pos) r G Q := fun F0 T F H σ lk S =>
  Run.of (pe_dc hc hN piR ok blkG_ok blkT_ok blkE_ok blkE_ok hs) (by
    refine (h F0 T F H σ lk S).mono fun J H1 ⟨ds, r2, G1, Fa, e1, Sa, hJ, I, i0, it, ie⟩ L hL => ?_
    obtain ⟨f1, f2, f3⟩ := Sa.bas.freshF hL
    refine ⟨fun i m H' => m = ds.length - i ∧ i ≤ ds.length ∧ DcInv X.K T Fa (L2.wipe σ (own.map (·.2))) L (I i) H', ⟨ds.length, by simp, Nat.zero_le _, dc_begin Sa hL i0⟩, ?_⟩
    rintro i m H' ⟨rfl, hi, hI⟩
    obtain ⟨_, _, _, _, F', _, S', _⟩ := id hI
    obtain ⟨j1, j2⟩ := hJ F' H' S'.bas.ff S'.bas.fh
    by_cases hlt : i < ds.length
    · obtain ⟨j3, _⟩ := j2 i ds[i] (List.getElem?_eq_getElem hlt)
      refine .inr ⟨j3, fun H2 => DcInv X.K T Fa (L2.wipe σ (own.map (·.2))) L (I (i + 1)) H2, fun H2 p2 => ⟨ds.length - (i + 1), by omega, rfl, hlt, p2⟩, fun x H2 y => ?_⟩
      exact dc_step (lk.base Sa.bas) f1 f3 hJ (List.getElem?_eq_getElem hlt) hI y fun acc r' G' q => it i ds[i] acc r' G' (List.getElem?_eq_getElem hlt) q
    · have e : i = ds.length := by omega
      subst e
      exact .inl ⟨j1, (dc_end Sa.bas hL (wk_wipe _ _) Sa hI fun acc r' G' q => ie acc r' G' q).ext e1⟩)
end
section
variable {X : Cy} {e a b c o tg kx vx : Expr} {es : List Expr} {st : Stmt} {sts rest body orelse : List Stmt} {r : Env2} {G : GD} {pos tpos p0 p1 p2 : Pos} {D0 : EndsD}
theorem pairs_rep {K : PySem.W.Frag} {F : Hp} : ∀ {kvs : List (Key × D)} {vs : List V}, RepL K F (kvs.map fun kv => .tup [kD kv.1, kv.2]) vs → ∃ (ps : List Addr) (us : List (Key × V)), vs = ps.map V.ref ∧ Paired (fun p kv => SqT K F p [kV kv.1, kv.2]) ps us ∧ DRep K F kvs us
  | [], _, h => ⟨[], [], h, .nil, rfl⟩
  | kv :: kvs, _, ⟨v, vs', h1, ⟨p, ws, h2, h3, w1, ws1, h4, h5, w2, ws2, h6, h7, h8⟩, h9⟩ => by
    obtain ⟨ps, us, z1, z2, z3⟩ := pairs_rep h9
    subst h1 h2 z1
    cases rep_kD h5
    cases (show ws2 = [] from h8)
    subst h6 h4
    exact ⟨p :: ps, (kv.1, w2) :: us, rfl, .cons h3 z2, ⟨(kv.1, w2), us, rfl, rfl, h7, z3⟩⟩
theorem DRep.fold {K : PySem.W.Frag} {F : Hp} : ∀ {kvs acc : List (Key × D)} {us ws : List (Key × V)}, DRep K F acc ws → DRep K F kvs us → DRep K F (kvs.foldl (fun acc kv => putD acc kv.1 kv.2) acc) (mergeK ws us)
  | [], _, _, _, h, h' => by rw [show _ = [] from h']; exact h
  | kv :: kvs, acc, _, ws, h, ⟨u, us', h1, h2, h3, h4⟩ => by
    subst h1
    have : DRep K F (putD acc kv.1 kv.2) (putK ws u.1 u.2) := by rw [h2]; exact h.put h3
    have z := DRep.fold this h4
    exact z
theorem paired_mono {α β : Type} {R R' : α → β → Prop} (k : ∀ a b, R a b → R' a b) : ∀ {xs : List α} {ys : List β}, Paired R xs ys → Paired R' xs ys
  | _, _, .nil => .nil
  | _, _, .cons h t => .cons (k _ _ h) (paired_mono k t)
theorem c_dictP {Q : Res → Prop} {kvs : List (Key × D)} (hcalm : X.calm = true) (q : Q (.fr (dicD (kvs.foldl (fun acc kv => putD acc kv.1 kv.2) [])))) : CallW1 X (.type "dict") (.lst (kvs.map fun kv => .tup [kD kv.1, kv.2])) Q := fun F0 T F G H r σ v S h => by
  obtain ⟨p, vs, rfl, k1, k2⟩ := h.lst S.bas.fh
  obtain ⟨ps, us, rfl, z2, z3⟩ := pairs_rep k2
  refine ⟨_, call_dictP hcalm, p, ps, us, rfl, .inl k1, paired_mono (fun a b h => S.bas.fh.sqT h) z2, fun l hl => ?_⟩
  obtain ⟨f1, f2, f3⟩ := S.bas.freshF hl
  exact ⟨.fr (dicD _), F, Ex.refl _, S.newH hl, ⟨l, rfl, own_dicD (DRep.fold (acc := []) (ws := []) rfl z3) upd_same, f1, f2, f3, S.freshR hl⟩, q⟩
end
/-- a special method of a class with slots: a plain def -/
structure SpecD (P : Program) (w : World) (K : PySem.W.Frag) (mg : Str → Option Value) (base : Heap) (C : Addr) (m : Str) (k : Nat) (ps : List Str) (sp : FSp) : Prop where
  ex : ∃ (g : Addr) (fd : FuncData), PySem.W.findIn K (.ref C) m = some (some (.ref g)) ∧ PySem.W.isFn K (.ref g) = true ∧ FnOk P w K mg base (CX P w) k g fd ps (spD K sp) ∧ Binds K fd ps []
section
variable {X : Cy} {e a b c o tg kx vx : Expr} {es : List Expr} {st : Stmt} {sts rest body orelse : List Stmt} {r : Env2} {G : GD} {pos tpos apos p0 p1 p2 : Pos} {D0 : EndsD}
theorem passF {X : Cx} : Passes (L2.CX X.prog X.w) X (fun _ _ _ => False) := fun _ _ _ _ _ _ _ h => by
  obtain ⟨_, _, _, _, _, _, _, _, _, _, _, _, z⟩ := h
  exact z.elim
theorem Vw.rep_ins {K : PySem.W.Frag} {F H : Hp} {C : Addr} {ds : List D} {v : V} (h : Vw K F H (.ins C ds) v) : Rep K F (.ins C ds) v := by
  rcases h with z | ⟨_, _, z⟩
  · exact z
  · exact z.elim
theorem Vw.rep_tup {K : PySem.W.Frag} {F H : Hp} {ds : List D} {v : V} (h : Vw K F H (.tup ds) v) : Rep K F (.tup ds) v := by
  rcases h with z | ⟨_, _, z⟩
  · exact z
  · exact z.elim
/-- a promise met, the open region as it was -/
theorem spD_same {K : PySem.W.Frag} {F0 T F H : Hp} {σ : L2.St} {sp : FSp} {ds : List D} {vs : List V} {Q : Res → Prop} {E : XK} (S : Sta K F0 T F G H r σ) (ha : RepL K F ds vs) (h : sp ds G (fun z G2 => G2 = G ∧ Q z) (fun _ _ => False)) :
    spD K sp vs H (fun v H' => ∃ x F', Ex F F' ∧ Sta K F0 T F' G H' r σ ∧ ResOk K T F' G H' r σ x v ∧ Q x) E :=
  ⟨F, G, ds, _, _, S.bas.fh, S.bas.gh, S.bas.fg, ha, h, fun x G' v H' F' ⟨e1, hp⟩ B rt => by
    subst e1
    exact ⟨x, F', B.ff, S.after B, ResOk.after S B rt, hp⟩, fun _ _ _ _ _ _ z => z.elim⟩
end
theorem lt_ {i n : Nat} (h : Nat.ble (i + 1) n = true) : i < n := Nat.le_of_ble_eq_true h
/-- what builtin names stand free -/
structure Bn (mg : Str → Option Value) : Prop where
  int : mg "int" = none
  len : mg "len" = none
  list : mg "list" = none
  range : mg "range" = none
  sorted : mg "sorted" = none
  tuple : mg "tuple" = none
  dict : mg "dict" = none
  isinstance : mg "isinstance" = none
  bool : mg "bool" = none
  str : mg "str" = none
  enumerate : mg "enumerate" = none
  reversed : mg "reversed" = none
  abs : mg "abs" = none
  min : mg "min" = none
  max : mg "max" = none
  sum : mg "sum" = none
  zip : mg "zip" = none
  set : mg "set" = none
  all : mg "all" = none
  divmod : mg "divmod" = none
section
variable {X : Cy} {r : Env2} {G : GD} {pos px py pz : Pos}
theorem wg_pair (i j : Nat) {x y : Str} {kt : Nat} {d1 d2 : D} {is : List Nat} {Q : Env2 → GD → Prop} (hc : X.calm = true) (nd : X.N.Nodup) (hi : X.N[i]? = some x) (hj : X.N[j]? = some y) (hx : L2.Loc X.env.scope x) (hy : L2.Loc X.env.scope y) (mi : i ∈ is) (mj : j ∈ is) (li : i < r.length) (lj : j < r.length)
    (q : Q ((r.set i (.sh d1)).set j (.sh d2)) G) (hfx : X.fn x = true ∨ X.env.scope.names.lookup x = some .local := by first | exact .inl rfl | exact .inr rfl | assumption) (hfy : X.fn y = true ∨ X.env.scope.names.lookup y = some .local := by first | exact .inl rfl | exact .inr rfl | assumption)
    (hn : (assignEach [.Name x px, .Name y py] X.env).length = 2 := by rfl) (hf : (assignEach [.Name x px, .Name y py] X.env).findIdx? (·.1) = none := by rfl) : WG X (.Tuple [.Name x px, .Name y py] kt pos) (.tup [d1, d2]) r G is Q :=
  wg_tup [i, j] hc (.cons (pg_name nd hi hx hfx) (.cons (pg_name nd hj hy hfy) .nil)) (fun t ht us => by
    rcases List.mem_cons.mp ht with rfl | ht
    · rfl
    · cases List.mem_singleton.mp ht; rfl) (fun k hk => by
    rcases List.mem_cons.mp hk with rfl | hk
    · exact mi
    · cases List.mem_singleton.mp hk; exact mj) rfl (fun k hk => by
    rcases List.mem_cons.mp hk with rfl | hk
    · exact li
    · cases List.mem_singleton.mp hk; exact lj) q hn hf
theorem wg_trip (i j l : Nat) {x y z : Str} {kt : Nat} {d1 d2 d3 : D} {is : List Nat} {Q : Env2 → GD → Prop} (hc : X.calm = true) (nd : X.N.Nodup) (hi : X.N[i]? = some x) (hj : X.N[j]? = some y) (hk : X.N[l]? = some z) (hx : L2.Loc X.env.scope x) (hy : L2.Loc X.env.scope y) (hz : L2.Loc X.env.scope z) (mi : i ∈ is) (mj : j ∈ is) (ml : l ∈ is) (li : i < r.length) (lj : j < r.length) (ll : l < r.length)
    (q : Q (((r.set i (.sh d1)).set j (.sh d2)).set l (.sh d3)) G) (hfx : X.fn x = true ∨ X.env.scope.names.lookup x = some .local := by first | exact .inl rfl | exact .inr rfl | assumption) (hfy : X.fn y = true ∨ X.env.scope.names.lookup y = some .local := by first | exact .inl rfl | exact .inr rfl | assumption) (hfz : X.fn z = true ∨ X.env.scope.names.lookup z = some .local := by first | exact .inl rfl | exact .inr rfl | assumption)
    (hn : (assignEach [.Name x px, .Name y py, .Name z pz] X.env).length = 3 := by rfl) (hf : (assignEach [.Name x px, .Name y py, .Name z pz] X.env).findIdx? (·.1) = none := by rfl) : WG X (.Tuple [.Name x px, .Name y py, .Name z pz] kt pos) (.tup [d1, d2, d3]) r G is Q :=
  wg_tup [i, j, l] hc (.cons (pg_name nd hi hx hfx) (.cons (pg_name nd hj hy hfy) (.cons (pg_name nd hk hz hfz) .nil))) (fun t ht us => by
    rcases List.mem_cons.mp ht with rfl | ht
    · rfl
    · rcases List.mem_cons.mp ht with rfl | ht
      · rfl
      · cases List.mem_singleton.mp ht; rfl) (fun k hk => by
    rcases List.mem_cons.mp hk with rfl | hk
    · exact mi
    · rcases List.mem_cons.mp hk with rfl | hk
      · exact mj
      · cases List.mem_singleton.mp hk; exact ml) rfl (fun k hk => by
    rcases List.mem_cons.mp hk with rfl | hk
    · exact li
    · rcases List.mem_cons.mp hk with rfl | hk
      · exact lj
      · cases List.mem_singleton.mp hk; exact ll) q hn hf
end
section
variable {X : Cy} {e a b c o tg kx vx : Expr} {es : List Expr} {st : Stmt} {sts rest body orelse : List Stmt} {r : Env2} {G : GD} {pos tpos apos cpos p0 p1 p2 : Pos} {D0 : EndsD}
/-- max, min of a list of ints -/
theorem c_maxL {Q : Res → Prop} {ns : List Int} (hc : X.calm = true) (hn : ns ≠ []) (q : ∀ m, m ∈ ns → (∀ y ∈ ns, y ≤ m) → Q (.sh (.int m))) : CallW1 X (.builtin "max") (.lst (ns.map D.int)) Q := fun F0 T F G H r σ v S h => by
  obtain ⟨p, vs, rfl, k1, k2⟩ := h.lst S.bas.fh
  cases k2.ints
  exact ⟨_, cr_max hc, p, ns, rfl, .inl k1, List.length_pos_iff.mpr hn, fun m h1 h2 => ⟨.sh (.int m), F, Ex.refl _, S, rfl, q m h1 h2⟩⟩
theorem c_minL {Q : Res → Prop} {ns : List Int} (hc : X.calm = true) (hn : ns ≠ []) (q : ∀ m, m ∈ ns → (∀ y ∈ ns, m ≤ y) → Q (.sh (.int m))) : CallW1 X (.builtin "min") (.lst (ns.map D.int)) Q := fun F0 T F G H r σ v S h => by
  obtain ⟨p, vs, rfl, k1, k2⟩ := h.lst S.bas.fh
  cases k2.ints
  exact ⟨_, cr_min hc, p, ns, rfl, .inl k1, List.length_pos_iff.mpr hn, fun m h1 h2 => ⟨.sh (.int m), F, Ex.refl _, S, rfl, q m h1 h2⟩⟩
/-- xs.index(k), ints -/
theorem mw_index {Q : Res → Prop} {ns : List Int} {k : Int} {j : Nat} (hj : ns[j]? = some k) (hno : ∀ m, m < j → ns[m]? ≠ some k) (q : Q (.sh (.int (j : Nat)))) : MtW X "list.index" (.lst (ns.map D.int)) (.int k) Q := fun F0 T F G H r σ v w S h hw => by
  obtain ⟨p, vs, rfl, k1, k2⟩ := h.lst S.bas.fh
  cases k2.ints
  cases hw.int
  refine ⟨_, mt_index, p, ns.map V.int, .int k, j, .int k, rfl, rfl, .inl k1, rfl, ?_, ?_, beq_self_eq_true k, fun m z' hm hz => ?_, .sh (.int (j : Nat)), F, Ex.refl _, S, rfl, q⟩
  · rw [List.all_map]; exact List.all_eq_true.mpr fun _ _ => rfl
  · rw [List.getElem?_map, hj]; rfl
  · rw [List.getElem?_map] at hz
    cases e : ns[m]? with
    | none => rw [e] at hz; cases hz
    | some n =>
      rw [e] at hz
      cases hz
      exact beq_eq_false_iff_ne.mpr fun z => hno m hm (by rw [e, z])
theorem we_index {Q : Res → Env2 → GD → Prop}
    (h : WE X o r G fun x r1 G1 => ∃ ds0, VwR r1 G1 x (.lst ds0) ∧ WE X e r1 G1 fun y r2 G2 => ∃ dr da, VwR r2 G2 x dr ∧ VwR r2 G2 y da ∧ MtW X "list.index" dr da fun z => Q z r2 G2)
    (hbase : attributeBase o "index" X.env (eval o X.env) = eval o X.env := by rfl)
    (hfew : ((backTo cpos (starEach [e] X.env)).all (fun x => !x.1) && (backToKw cpos (keywordEach [] X.env)).all (fun x => x.1.isSome) && decide (([e] : List Expr).length + ([] : List Keyword).length + (if ([] : List Keyword).isEmpty then 0 else 1) < 30)) = true := by rfl)
    (hline : (apos.endLine == cpos.line) = true := by rfl) (hs : starEach [e] X.env = (false, eval e X.env) :: starEach [] X.env := by rfl) (hplain : (backTo cpos (starEach [] X.env)).any (·.1) = false := by rfl) :
    WE X (.Call (.Attribute o "index" apos) [e] [] cpos) r G Q := we_r1 PySem.F.plainAttrs_list PySem.F.slot_list_index PySem.F.type_list_index h hbase hfew hline hs hplain
/-- a, b = e, e a pair -/
theorem ws_unp2 (i j : Nat) {x y : Str} {px py tpos : Pos} {k : Nat} (hc : X.calm = true) (nd : X.N.Nodup) (hi : X.N[i]? = some x) (hj : X.N[j]? = some y) (hx : L2.Loc X.env.scope x) (hy : L2.Loc X.env.scope y)
    (h : WE X e r G fun z r1 G1 => ∃ d1 d2 r2, fz r1 z = some (.tup [d1, d2], r2) ∧ i < r2.length ∧ j < r2.length ∧ D0.nx ((r2.set i (.sh d1)).set j (.sh d2)) G1)
    (hfx : X.fn x = true ∨ X.env.scope.names.lookup x = some .local := by first | exact .inl rfl | exact .inr rfl | assumption) (hfy : X.fn y = true ∨ X.env.scope.names.lookup y = some .local := by first | exact .inl rfl | exact .inr rfl | assumption)
    (hn : (assignEach [.Name x px, .Name y py] X.env).length = 2 := by rfl) (hf : (assignEach [.Name x px, .Name y py] X.env).findIdx? (·.1) = none := by rfl)
    (hs : swapsWithSole [.Tuple [.Name x px, .Name y py] k tpos] e pos.line X.env = pure false := by rfl) (hw : swappedStores [.Tuple [.Name x px, .Name y py] k tpos] e X.env = pure none := by rfl)
    (h1 : (assignEach [.Tuple [.Name x px, .Name y py] k tpos] X.env).map (·.2) = [assign (.Tuple [.Name x px, .Name y py] k tpos) X.env] := by rfl) : WS X (.Assign [.Tuple [.Name x px, .Name y py] k tpos] e pos) r G D0 :=
  ws_unpack [i, j] hc (.cons (pg_name nd hi hx hfx) (.cons (pg_name nd hj hy hfy) .nil)) (fun t ht us => by
    rcases List.mem_cons.mp ht with rfl | ht
    · rfl
    · cases List.mem_singleton.mp ht; rfl) (h.mono fun z r1 G1 ⟨d1, d2, r2, q1, q2, q3, q4⟩ => ⟨[d1, d2], r2, q1, rfl, fun k hk => by
      rcases List.mem_cons.mp hk with rfl | hk
      · exact q2
      · cases List.mem_singleton.mp hk; exact q3, q4⟩) hn hf hs hw h1
end
/-- an exception: the number of its class, its values by name -/
structure Xm where
  n : Nat
  fs : List (Str × D)
inductive Out (α : Type) where
  | ok (a : α) | ex (x : Xm) | no
namespace Out
variable {α β σ ρ : Type}
def sat (m : Out α) (Q : α → Prop) (E : Xm → Prop) : Prop := match m with
  | .ok a => Q a
  | .ex x => E x
  | .no => False
def bind (m : Out α) (f : α → Out β) : Out β := match m with
  | .ok a => f a
  | .ex x => .ex x
  | .no => .no
/-- no exception is let out -/
def nox (m : Out α) : Out α := match m with
  | .ok a => .ok a
  | _ => .no
@[irreducible] def guard (p : Prop) [Decidable p] : Out Unit := if p then .ok () else .no
def get (o : Option α) : Out α := match o with
  | some a => .ok a
  | none => .no
theorem sat.imp {m : Out α} {Q Q' : α → Prop} {E E' : Xm → Prop} (h : m.sat Q E) (k : ∀ a, Q a → Q' a) (e : ∀ x, E x → E' x) : m.sat Q' E' := by
  cases m with
  | ok a => exact k a h
  | ex x => exact e x h
  | no => exact h
theorem sb {m : Out α} {f : α → Out β} {Q : β → Prop} {E : Xm → Prop} (h : (m.bind f).sat Q E) : m.sat (fun a => (f a).sat Q E) E := by
  cases m with
  | ok a => exact h
  | ex x => exact h
  | no => exact h
theorem nx {m : Out α} {Q : α → Prop} {E E' : Xm → Prop} (h : m.nox.sat Q E) : m.sat Q E' := by
  cases m with
  | ok a => exact h
  | ex x => exact h.elim
  | no => exact h
theorem gd {p : Prop} [Decidable p] {f : Unit → Out β} {Q : β → Prop} {E : Xm → Prop} (h : ((guard p).bind f).sat Q E) : p ∧ (f ()).sat Q E := by
  by_cases hp : p
  · unfold guard at h; rw [if_pos hp] at h; exact ⟨hp, h⟩
  · unfold guard at h; rw [if_neg hp] at h; exact h.elim
theorem gt {o : Option α} {f : α → Out β} {Q : β → Prop} {E : Xm → Prop} (h : ((get o).bind f).sat Q E) : ∃ a, o = some a ∧ (f a).sat Q E := by
  cases o with
  | none => exact h.elim
  | some a => exact ⟨a, rfl, h⟩
theorem iteb {c : Bool} {a b : Out α} {Q : α → Prop} {E : Xm → Prop} (h : (if c = true then a else b).sat Q E) : (c = true → a.sat Q E) ∧ (c = false → b.sat Q E) :=
  ⟨fun hc => by rw [if_pos hc] at h; exact h, fun hc => by rw [if_neg (by rw [hc]; exact Bool.false_ne_true)] at h; exact h⟩
@[simp] theorem bind_ok (a : α) (f : α → Out β) : (Out.ok a).bind f = f a := rfl
@[simp] theorem bind_ex (x : Xm) (f : α → Out β) : (Out.ex x : Out α).bind f = .ex x := rfl
@[simp] theorem bind_no (f : α → Out β) : (Out.no : Out α).bind f = .no := rfl
@[simp] theorem nox_ok (a : α) : (Out.ok a).nox = .ok a := rfl
@[simp] theorem get_some (a : α) : Out.get (some a) = .ok a := rfl
theorem guard_pos {p : Prop} [Decidable p] (h : p) : guard p = .ok () := by unfold guard; exact if_pos h
/-- a loop without a return -/
def fold (f : σ → α → Out σ) : List α → σ → Out σ
  | [], s => .ok s
  | x :: xs, s => (f s x).bind (fold f xs)
/-- how a block with a return ends -/
inductive Rt (σ ρ : Type) where
  | nx (s : σ) | rt (v : ρ)
/-- a loop with a return -/
def loop (f : σ → α → Out (Rt σ ρ)) : List α → σ → Out (Rt σ ρ)
  | [], s => .ok (.nx s)
  | x :: xs, s => (f s x).bind fun t => match t with
    | .nx s' => loop f xs s'
    | .rt v => .ok (.rt v)
/-- .. with a state -/
def compS (f : σ → α → Out (Option β × σ)) : List α → List β → σ → Out (List β × σ)
  | [], acc, s => .ok (acc, s)
  | x :: xs, acc, s => (f s x).bind fun p => compS f xs (match p.1 with
    | some y => acc ++ [y]
    | none => acc) p.2
end Out
open Out (Rt)
abbrev eI : Int → D := D.int
abbrev eB : Bool → D := D.bl
abbrev eU : Unit → D := fun _ => .non
abbrev eL {α : Type} (f : α → D) : List α → D := fun xs => .lst (xs.map f)
abbrev eT {α : Type} (f : α → D) : List α → D := fun xs => .tup (xs.map f)
abbrev eP {α β : Type} (f : α → D) (g : β → D) : α × β → D := fun p => .tup [f p.1, g p.2]
abbrev eP3 {α β γ : Type} (f : α → D) (g : β → D) (h : γ → D) : α × β × γ → D := fun p => .tup [f p.1, g p.2.1, h p.2.2]
abbrev eO {α : Type} (f : α → D) : Option α → D := fun o => match o with
  | none => .non
  | some a => f a
def eDl {κ ν : Type} (k : κ → Key) (f : ν → D) (kvs : List (κ × ν)) : List (Key × D) := kvs.map fun p => (k p.1, f p.2)
abbrev eD {κ ν : Type} (k : κ → Key) (f : ν → D) : List (κ × ν) → D := fun kvs => .dic (kvs.map fun p => k p.1) (kvs.map fun p => f p.2)
theorem eD_dicD {κ ν : Type} (k : κ → Key) (f : ν → D) (kvs : List (κ × ν)) : dicD (eDl k f kvs) = eD k f kvs := by
  unfold dicD eDl
  rw [List.map_map, List.map_map]; rfl
/-- the class of an exception of the mirrors -/
def xnOf (cx : Nat → Addr) (m : Xm) : Exn := ⟨.ref (cx m.n), m.fs⟩
/-- a def without draws -/
def FM (cx : Nat → Addr) {A R : Type} (en : A → List D) (er : R → Res) (f : A → Out R) : FSp := fun ds G post px => ∃ a : A, ds = en a ∧ (f a).sat (fun v => post (er v) G) (fun m => px (xnOf cx m) G)
section
variable {X : Cy} {e a b c o tg kx vx elt : Expr} {es ifs : List Expr} {st : Stmt} {sts rest body orelse : List Stmt} {r : Env2} {G : GD} {pos tpos apos cpos p0 : Pos} {D0 : EndsD} {α β γ σT ρ : Type}
theorem wb_env (R : Env2) (hr : r = R) (k : WB X sts R G D0) : WB X sts r G D0 := by subst hr; exact k
theorem wb_let {e : α} {f : α → Out β} {Q : β → Prop} {E : Xm → Prop} (h : ((Out.ok e).bind f).sat Q E) (R : α → Env2) (hr : r = R e) (k : ∀ x, (f x).sat Q E → WB X sts (R x) G D0) : WB X sts r G D0 := by subst hr; exact k e h
theorem WG.weak {d : D} {r' : Env2} {is : List Nat} {Q : Env2 → GD → Prop} (w : Wk r r') (h : WG X tg d r' G is Q) : WG X tg d r G is Q := fun F0 T F H σ v lk S rp => h F0 T F H σ v lk (S.weak w) rp
/-- what an end of a block with a state says -/
def AtS (env : σT → Env2) (gg : σT → GD) (Q : σT → Prop) : Env2 → GD → Prop := fun r G => ∃ s, Wk r (env s) ∧ G = gg s ∧ Q s
theorem wb_join (env : σT → Env2) (gg : σT → GD) {m : Out σT} {f : σT → Out β} {Q : β → Prop} {E : Xm → Prop} (h : (m.bind f).sat Q E)
    (hs : ∀ Q' : σT → Prop, m.sat Q' E → WS X st r G { D0 with nx := AtS env gg Q' }) (k : ∀ s, (f s).sat Q E → WB X rest (env s) (gg s) D0) : WB X (st :: rest) r G D0 :=
  wb_cut (AtS env gg fun s => (f s).sat Q E) (hs _ (Out.sb h)) fun r1 G1 ⟨s, w, hg, q⟩ => by
    subst hg
    exact (k s q).weak w
theorem drop_at {xs : List α} {k : Nat} {x : α} (hx : xs[k]? = some x) : xs.drop k = x :: xs.drop (k + 1) := by
  obtain ⟨hk, hxk⟩ := List.getElem?_eq_some_iff.mp hx
  rw [List.drop_eq_getElem_cons hk, hxk]
theorem map_at {en : α → D} {xs : List α} {k : Nat} {d : D} (hd : (xs.map en)[k]? = some d) : ∃ x, xs[k]? = some x ∧ d = en x := by
  rw [List.getElem?_map] at hd
  cases hx : xs[k]? with
  | none => rw [hx] at hd; cases hd
  | some x => rw [hx] at hd; cases hd; exact ⟨x, rfl, rfl⟩
theorem wb_forO (is : List Nat) (env : σT → Env2) (gg : σT → GD) (en : α → D) (hp : PassesOwn (model X.prog X.w) X.A X.env X.xe) (hc : X.calm = true)
    (h : WI X tg e r G fun ds r2 G1 => ∃ (xs : List α) (s0 : σT) (f : σT → α → Out σT) (kk : σT → Out β) (Q : β → Prop) (E : Xm → Prop), ds = xs.map en ∧ Wk r2 (env s0) ∧ G1 = gg s0 ∧ ((Out.fold f xs s0).bind kk).sat Q E ∧
      (∀ (s : σT) (x : α) (Q' : σT → Prop), (f s x).sat Q' E → WG X tg (en x) (env s) (gg s) is fun r4 G4 => WB X body r4 G4 { D0 with nx := AtS env gg Q', ct := AtS env gg Q', bk := fun r1 G1 => WB X rest r1 G1 D0 }) ∧
      ∀ s, (kk s).sat Q E → WB X rest (env s) (gg s) D0) (hs : ∀ x, foldedSetIterable e X.env x = pure x := by intro _; rfl) : WB X (.For tg e body [] pos :: rest) r G D0 :=
  wb_cons (ws_for (is := is) hp hc (h.mono fun ds r2 G1 ⟨xs, s0, f, kk, Q, E, hd, w0, hg, h0, hb, hn⟩ => by
    subst hd hg
    refine ⟨fun k r3 G3 => AtS env gg (fun s => ((Out.fold f (xs.drop k) s).bind kk).sat Q E) r3 G3, ⟨s0, w0, rfl, h0⟩, fun k d r3 G3 hd ⟨s, w, hg, hq⟩ => ?_, fun r3 G3 ⟨s, w, hg, hq⟩ => ?_⟩
    · subst hg
      obtain ⟨x, hx, rfl⟩ := map_at hd
      rw [drop_at hx] at hq
      have hq' : (f s x).sat (fun s' => ((Out.fold f (xs.drop (k + 1)) s').bind kk).sat Q E) E := by
        have z : (((f s x).bind (Out.fold f (xs.drop (k + 1)))).bind kk).sat Q E := hq
        cases hf : f s x with
        | ok s' => rw [hf] at z; exact z
        | ex x' => rw [hf] at z; exact z
        | no => rw [hf] at z; exact z
      exact (hb s x _ hq').weak w
    · rw [List.length_map, List.drop_length] at hq
      subst hg
      exact (hn s hq).weak w) hs)
theorem wb_forR (is : List Nat) (env : σT → Env2) (gg : σT → GD) (en : α → D) (er : ρ → Res) (gr : ρ → GD) (hp : PassesOwn (model X.prog X.w) X.A X.env X.xe) (hc : X.calm = true)
    (h : WI X tg e r G fun ds r2 G1 => ∃ (xs : List α) (s0 : σT) (f : σT → α → Out (Rt σT ρ)) (kk : Rt σT ρ → Out β) (Q : β → Prop) (E : Xm → Prop), ds = xs.map en ∧ Wk r2 (env s0) ∧ G1 = gg s0 ∧ ((Out.loop f xs s0).bind kk).sat Q E ∧
      (∀ (s : σT) (x : α) (Q' : Rt σT ρ → Prop), (f s x).sat Q' E → WG X tg (en x) (env s) (gg s) is fun r4 G4 => WB X body r4 G4 { nx := AtS env gg (fun s => Q' (.nx s)), ct := AtS env gg (fun s => Q' (.nx s)), bk := fun r1 G1 => WB X rest r1 G1 D0, rt := fun y G' => ∃ v, y = er v ∧ G' = gr v ∧ Q' (.rt v) }) ∧
      (∀ v, (kk (.rt v)).sat Q E → D0.rt (er v) (gr v)) ∧ ∀ s, (kk (.nx s)).sat Q E → WB X rest (env s) (gg s) D0) (hs : ∀ x, foldedSetIterable e X.env x = pure x := by intro _; rfl) : WB X (.For tg e body [] pos :: rest) r G D0 :=
  wb_cons (ws_for (is := is) hp hc (h.mono fun ds r2 G1 ⟨xs, s0, f, kk, Q, E, hd, w0, hg, h0, hb, hr, hn⟩ => by
    subst hd hg
    refine ⟨fun k r3 G3 => AtS env gg (fun s => ((Out.loop f (xs.drop k) s).bind kk).sat Q E) r3 G3, ⟨s0, w0, rfl, h0⟩, fun k d r3 G3 hd ⟨s, w, hg, hq⟩ => ?_, fun r3 G3 ⟨s, w, hg, hq⟩ => ?_⟩
    · subst hg
      obtain ⟨x, hx, rfl⟩ := map_at hd
      rw [drop_at hx] at hq
      have hq' : (f s x).sat (fun t => match t with
          | .nx s' => ((Out.loop f (xs.drop (k + 1)) s').bind kk).sat Q E
          | .rt v => (kk (.rt v)).sat Q E) E := by
        have z : (((f s x).bind fun t => match t with
          | .nx s' => Out.loop f (xs.drop (k + 1)) s'
          | .rt v => .ok (.rt v)).bind kk).sat Q E := hq
        cases hf : f s x with
        | ok t =>
          rw [hf] at z
          cases t with
          | nx s' => exact z
          | rt v => exact z
        | ex x' => rw [hf] at z; exact z
        | no => rw [hf] at z; exact z
      refine WG.weak w fun F0 T F H σ v lk S rp => ?_
      have q := hb s x _ hq' F0 T F H σ v lk S rp
      refine fun pins s1 u I rv => wpAny_mono (q pins s1 u I rv) (fun _ _ ⟨σ', H', I', hw, r', G', F', e', S', q'⟩ => ⟨σ', H', I', hw, r', G', F', e', S', ?_⟩) fun _ _ x => x
      refine WB.mono q' (fun _ _ z => z) (fun y G' ⟨v, hy, hG, z⟩ => ?_) (fun _ _ z => z) (fun _ _ z => z)
      subst hy hG
      exact hr v z
    · rw [List.length_map, List.drop_length] at hq
      subst hg
      exact (hn s hq).weak w) hs)
end
open Out (Rt)
section
variable {κ ν : Type} [DecidableEq κ]
def dput (kvs : List (κ × ν)) (k : κ) (v : ν) : List (κ × ν) := if (kvs.any fun p => decide (p.1 = k)) = true then kvs.map (fun p => if p.1 = k then (p.1, v) else p) else kvs ++ [(k, v)]
def dget (kvs : List (κ × ν)) (k : κ) : Option ν := (kvs.find? fun p => decide (p.1 = k)).map (·.2)
def dhas (kvs : List (κ × ν)) (k : κ) : Bool := kvs.any fun p => decide (p.1 = k)
def dmk (kvs : List (κ × ν)) : List (κ × ν) := kvs.foldl (fun acc p => dput acc p.1 p.2) []
end
/-- keys that are told apart -/
def KInj {κ : Type} (k : κ → Key) : Prop := ∀ a b, k a = k b → a = b
section
variable {κ ν : Type} [DecidableEq κ] {k : κ → Key} {f : ν → D}
theorem any_key (hk : KInj k) (kvs : List (κ × ν)) (x : κ) : ((eDl k f kvs).any fun kv => decide (kv.1 = k x)) = kvs.any fun p => decide (p.1 = x) := by
  unfold eDl
  rw [List.any_map]
  congr 1
  funext p
  show decide (k p.1 = k x) = decide (p.1 = x)
  by_cases h : p.1 = x
  · rw [h]; simp
  · have : ¬ k p.1 = k x := fun z => h (hk _ _ z)
    simp [h, this]
theorem putD_eDl (hk : KInj k) (kvs : List (κ × ν)) (x : κ) (v : ν) : putD (eDl k f kvs) (k x) (f v) = eDl k f (dput kvs x v) := by
  unfold putD dput
  rw [any_key hk]
  by_cases h : (kvs.any fun p => decide (p.1 = x)) = true
  · rw [if_pos h, if_pos h]
    unfold eDl
    rw [List.map_map, List.map_map]
    congr 1
    funext p
    show (if k p.1 = k x then (k p.1, f v) else (k p.1, f p.2)) = (k (if p.1 = x then (p.1, v) else p).1, f (if p.1 = x then (p.1, v) else p).2)
    by_cases hp : p.1 = x
    · rw [if_pos (by rw [hp]), if_pos hp]
    · rw [if_neg (fun z => hp (hk _ _ z)), if_neg hp]
  · rw [if_neg h, if_neg h]
    unfold eDl
    rw [List.map_append]; rfl
theorem dput_len (kvs : List (κ × ν)) (x : κ) (v : ν) : (dput kvs x v).length ≤ kvs.length + 1 := by
  unfold dput
  split
  · rw [List.length_map]; omega
  · rw [List.length_append]; exact Nat.le_refl _
end
/-- the value at a key -/
def valD (kvs : List (Key × D)) (k : Key) : Option D := (kvs.find? fun kv => decide (kv.1 = k)).map (·.2)
theorem valD_rep {K : PySem.W.Frag} {F : Hp} {k : Key} : ∀ {acc : List (Key × D)} {us : List (Key × V)}, DRep K F acc us → (valD acc k = none ∧ valV us k = none) ∨ ∃ d v, valD acc k = some d ∧ valV us k = some v ∧ Rep K F d v
  | [], us, h => by
    rw [show us = [] from h]; exact .inl ⟨rfl, rfl⟩
  | p :: acc, _, ⟨u, us', h1, h2, h3, h4⟩ => by
    subst h1
    unfold valD valV
    rw [List.find?_cons, List.find?_cons, h2]
    by_cases hk : p.1 = k
    · rw [decide_eq_true hk]
      exact .inr ⟨p.2, u.2, rfl, rfl, h3⟩
    · rw [decide_eq_false hk]
      exact valD_rep h4
theorem valD_eDl {κ ν : Type} [DecidableEq κ] {k : κ → Key} {f : ν → D} (hk : KInj k) (kvs : List (κ × ν)) (x : κ) : valD (eDl k f kvs) (k x) = (dget kvs x).map f := by
  unfold valD dget eDl
  induction kvs with
  | nil => rfl
  | cons p kvs ih =>
    rw [List.map_cons, List.find?_cons, List.find?_cons]
    show (match decide (k p.1 = k x) with | true => some (k p.1, f p.2) | false => _).map _ = _
    by_cases h : p.1 = x
    · rw [decide_eq_true (by rw [h]), decide_eq_true h]; rfl
    · rw [decide_eq_false (fun z => h (hk _ _ z)), decide_eq_false h]; exact ih
theorem dget_isSome {κ ν : Type} [DecidableEq κ] (kvs : List (κ × ν)) (x : κ) : (dget kvs x).isSome = dhas kvs x := by
  unfold dget dhas
  rw [Option.isSome_map]
  induction kvs with
  | nil => rfl
  | cons p kvs ih =>
    rw [List.find?_cons, List.any_cons]
    by_cases h : p.1 = x
    · rw [decide_eq_true h]; rfl
    · rw [decide_eq_false h, Bool.false_or]; exact ih
theorem zip_eDl {κ ν : Type} {k : κ → Key} {f : ν → D} (kvs : List (κ × ν)) : (kvs.map fun p => k p.1).zip (kvs.map fun p => f p.2) = eDl k f kvs := by
  unfold eDl
  induction kvs with
  | nil => rfl
  | cons p kvs ih => rw [List.map_cons, List.map_cons, List.map_cons, List.zip_cons_cons, ih]
section
variable {X : Cy} {e a b c o tg kx vx elt i : Expr} {es ifs : List Expr} {st : Stmt} {sts rest body orelse : List Stmt} {r : Env2} {G : GD} {pos tpos apos cpos p0 : Pos} {D0 : EndsD} {α β γ σT ρ : Type}
theorem vw_kD {K : PySem.W.Frag} {F H : Hp} {k : Key} {v : V} (h : Vw K F H (kD k) v) : v = kV k := by
  cases k with
  | inl n => exact h.int
  | inr x => exact h.str
/-- a dict that is looked at -/
theorem Vw.dics {K : PySem.W.Frag} {F H : Hp} (ex : Ex F H) {ks : List Key} {ds : List D} {v : V} (h : Vw K F H (.dic ks ds) v) : ∃ p us, v = .ref p ∧ Rd H p (.dK us) ∧ DRep K F (ks.zip ds) us := by
  obtain ⟨p, vs, rfl, k1, k2, k3⟩ := h.dic ex
  exact ⟨p, _, rfl, k1, DRep.of k2 k3⟩
def rDIn : R2 := fun y x H Q => ∃ a ov, x = .ref a ∧ DGet H a y ov ∧ Q (.bl ov.isSome) H
theorem op_din {X : Cx} (hu : X.A.units + 1 < cLine) : OpR X (compareOp .In) rDIn := fun pins s σ H y x u v Q I ry rx ⟨a, ov, ex, g, q⟩ => by
  subst ex
  cases (show v = Value.ref a from rx)
  exact d_in hu I g ry fun s' I' => ⟨.bl ov.isSome, H, I', rfl, q⟩
def rDNin : R2 := fun y x H Q => ∃ a ov, x = .ref a ∧ DGet H a y ov ∧ Q (.bl (!ov.isSome)) H
theorem op_dnin {X : Cx} (hu : X.A.units + 1 < cLine) : OpR X (compareOp .NotIn) rDNin := fun pins s σ H y x u v Q I ry rx ⟨a, ov, ex, g, q⟩ => by
  subst ex
  cases (show v = Value.ref a from rx)
  exact d_notIn hu I g ry fun s' I' => ⟨.bl (!ov.isSome), H, I', rfl, q⟩
theorem val_some {K : PySem.W.Frag} {F : Hp} {k : Key} {acc : List (Key × D)} {us : List (Key × V)} (h : DRep K F acc us) : (valV us k).isSome = (valD acc k).isSome := by
  rcases valD_rep (k := k) h with ⟨h1, h2⟩ | ⟨d, v, h1, h2, _⟩
  · rw [h1, h2]; rfl
  · rw [h1, h2]; rfl
theorem opw_din {κ ν : Type} [DecidableEq κ] {k : κ → Key} {f : ν → D} {kvs : List (κ × ν)} {x : κ} {Q : Res → Prop} (hk : KInj k) (hu : X.A.units + 64 < cLine) (q : Q (.sh (.bl (dhas kvs x)))) : OpW X (compareOp .In) (kD (k x)) (eD k f kvs) Q := fun F0 T F G H r σ va vb S h1 h2 => by
  obtain ⟨p, us, rfl, z1, z2⟩ := h2.dics S.bas.fh
  rw [zip_eDl] at z2
  have hv : va = kV (k x) := vw_kD h1
  subst hv
  refine ⟨_, op_din (by omega), p, _, rfl, .inl ⟨us, k x, z1, rfl, rfl⟩, .sh (.bl (dhas kvs x)), F, Ex.refl _, S, ?_, q⟩
  show V.bl _ = V.bl _
  rw [val_some z2, valD_eDl hk, Option.isSome_map, dget_isSome]
theorem opw_dnin {κ ν : Type} [DecidableEq κ] {k : κ → Key} {f : ν → D} {kvs : List (κ × ν)} {x : κ} {Q : Res → Prop} (hk : KInj k) (hu : X.A.units + 64 < cLine) (q : Q (.sh (.bl (!dhas kvs x)))) : OpW X (compareOp .NotIn) (kD (k x)) (eD k f kvs) Q := fun F0 T F G H r σ va vb S h1 h2 => by
  obtain ⟨p, us, rfl, z1, z2⟩ := h2.dics S.bas.fh
  rw [zip_eDl] at z2
  have hv : va = kV (k x) := vw_kD h1
  subst hv
  refine ⟨_, op_dnin (by omega), p, _, rfl, .inl ⟨us, k x, z1, rfl, rfl⟩, .sh (.bl (!dhas kvs x)), F, Ex.refl _, S, ?_, q⟩
  show V.bl _ = V.bl _
  rw [val_some z2, valD_eDl hk, Option.isSome_map, dget_isSome]
/-- d[k] -/
theorem we_dget {κ ν : Type} [DecidableEq κ] {k : κ → Key} {f : ν → D} (hk : KInj k) (hu : X.A.units + 64 < cLine) {Q : Res → Env2 → GD → Prop} (hs : NoSl i)
    (h : WE X o r G fun x r1 G1 => WE X i r1 G1 fun y r2 G2 => ∃ kvs key v, VwR r2 G2 x (eD k f kvs) ∧ vw r2 y = some (kD (k key)) ∧ dget kvs key = some v ∧ Q (.sh (f v)) r2 G2) : WE X (.Subscript o i pos) r G Q := fun F0 T F H σ lk S =>
  Run.of (pe_dget (by omega) peR peR hs) (by
    refine (h F0 T F H σ lk S).mono fun va H1 ⟨x, r1, G1, F1, e1, S1, k1, h1⟩ => ?_
    obtain ⟨F1', e1', S1', hv⟩ := hold S1 k1
    refine (h1 F0 T F1' H1 σ lk S1').mono fun vb H2 ⟨y, r2, G2, F2, e2, S2, k2, kvs, key, v, q1, q2, q3, q4⟩ => ?_
    obtain ⟨p, us, hp, z1, z2⟩ := (hv F2 G2 H2 r2 _ e2 S2 q1).dics S2.bas.fh
    subst hp
    rw [zip_eDl] at z2
    have hvb : vb = kV (k key) := vw_kD (S2.view k2 q2)
    subst hvb
    rcases valD_rep (k := k key) z2 with ⟨m1, m2⟩ | ⟨d, w, m1, m2, m3⟩
    · rw [valD_eDl hk, q3] at m1; cases m1
    · rw [valD_eDl hk, q3] at m1
      cases m1
      exact ⟨p, w, rfl, .inl ⟨us, k key, z1, rfl, m2.symm⟩, .sh (f v), r2, G2, F2, (e1.trans e1').trans e2, S2, m3, q4⟩)
/-- {} -/
theorem we_dnew {Q : Res → Env2 → GD → Prop} (q : Q (.fr (.dic [] [])) r G) : WE X (.Dict [] [] pos) r G Q := fun F0 T F H σ lk S =>
  Run.of pe_dnewK fun p hp => by
    obtain ⟨f1, f2, f3⟩ := S.bas.freshF hp
    exact ⟨.fr (.dic [] []), r, G, F, Ex.refl _, S.newH hp, ⟨p, rfl, ⟨[], upd_same, rfl, rfl⟩, f1, f2, f3, S.freshR hp⟩, q⟩
/-- d[k] = v, d an own slot -/
theorem ws_dput {κ ν : Type} [DecidableEq κ] {k : κ → Key} {f : ν → D} (hk : KInj k) (hu : X.A.units + 64 < cLine)
    (h : WE X e r G fun z r1 G1 => ∃ v r2, fz r1 z = some (f v, r2) ∧ WE X o r2 G1 fun x r3 G3 => ∃ j, x = .pk j ∧ WE X i r3 G3 fun y r4 G4 => ∃ kvs key, y = .sh (kD (k key)) ∧ r4[j]? = some (.own (eD k f kvs)) ∧ kvs.length < LIM ∧ D0.nx (r4.set j (.own (eD k f (dput kvs key v)))) G4)
    (hs : swapsWith e (some (.Subscript o i tpos)) pos.line X.env = pure false := by rfl) : WS X (.Assign [.Subscript o i tpos] e pos) r G D0 := fun F0 T F H σ lk S =>
  RunS.of (ps_dput (by omega) peR peR peR hs) ((h F0 T F H σ lk S).mono fun v0 H1 ⟨z, r1, G1, F1, e1, S1, k1, v, r2, q1, h1⟩ => by
    obtain ⟨F1', e1', S1', rp⟩ := S1.fz k1 q1
    refine (h1 F0 T F1' H1 σ lk S1').mono fun vo H2 ⟨x, r3, G3, F2, e2, S2, k2, j, hx, h2⟩ => ?_
    subst hx
    obtain ⟨k2a, _⟩ := k2
    refine (h2 F0 T F2 H2 σ lk S2).mono fun vi H3 ⟨y, r4, G4, F3, e3, S3, k3, kvs, key, hy, hj, hl, q⟩ => ?_
    subst hy
    have hvi : vi = kV (k key) := rep_kD k3
    subst hvi
    obtain ⟨p, m1, ⟨vs, m2, m3, m4⟩, m5, m6⟩ := S3.mut hj
    rw [k2a] at m1; cases m1
    have dr := DRep.of m3 m4
    rw [zip_eDl] at dr
    have dr2 := dr.put (k := k key) (Rep.mono (e2.trans e3) _ _ rp)
    rw [putD_eDl hk] at dr2
    have ow := own_dicD (H := upd H3 p (.dK (putK ((kvs.map fun p => k p.1).zip vs) (k key) v0))) dr2 upd_same
    rw [eD_dicD] at ow
    refine ⟨p, _, rfl, DPut.k m2 (by rw [dr.length]; unfold eDl; rw [List.length_map]; exact lim_lt hl), _, G4, F3, m6 _ _ ow, q⟩)
abbrev Blk (X : Cy) (scope : Scope) (P : Cy → Prop) : Prop := ∀ Y, BlkX X scope Y → P Y
/-- an item that is made: the state as it was -/
def Made (R : Env2) (G : GD) (is : List Nat) (d : D) : Res → Env2 → GD → Prop := fun z r2 G2 => ∃ r3, fz r2 z = some (d, r3) ∧ Wk (wipeD r3 is) R ∧ G2 = G
theorem WG.mono {d : D} {is : List Nat} {Q Q' : Env2 → GD → Prop} (h : WG X tg d r G is Q) (k : ∀ r G, Q r G → Q' r G) : WG X tg d r G is Q' := fun F0 T F H σ v lk S rp pins s u I rv =>
  wpAny_mono (h F0 T F H σ v lk S rp pins s u I rv) (fun _ _ ⟨σ', H', I', hw, r', G', F', e', S', q'⟩ => ⟨σ', H', I', hw, r', G', F', e', S', k _ _ q'⟩) fun _ _ x => x
/-- what is known of slots is forgotten behind an expression -/
theorem WE.wkp {Q : Res → Env2 → GD → Prop} (h : WE X e r G fun x r1 G1 => ∃ R, Wk r1 R ∧ (∀ i, x ≠ .pk i) ∧ Q x R G1) : WE X e r G Q := fun F0 T F H σ lk S =>
  (h F0 T F H σ lk S).mono fun v H1 ⟨x, r1, G1, F1, e1, S1, k1, R, w, hx, q⟩ => by
    refine ⟨x, R, G1, F1, e1, S1.weak w, ?_, q⟩
    cases x with
    | sh d => exact k1
    | pk i => exact absurd rfl (hx i)
    | fr d =>
      obtain ⟨p, z1, z2, z3, z4, z5, z6⟩ := k1
      refine ⟨p, z1, z2, z3, z4, z5, fun i e he => ?_⟩
      rcases w.get i _ he with z | z
      · cases z
      · exact z6 i e z
/-- what a comprehension asks of its turns -/
def LcPre (X : Cy) (scope : Scope) (tg e elt : Expr) (ifs : List Expr) (is : List Nat) (r : Env2) (G : GD) (Q : Res → Env2 → GD → Prop) : Prop :=
  WI X tg e r G fun ds r2 G1 => ∃ I : Nat → List D → Env2 → GD → Prop, I 0 [] (wipeD r2 is) G1 ∧ (∀ (k : Nat) (d : D) (acc : List D) (r3 : Env2) (G3 : GD), ds[k]? = some d → I k acc r3 G3 → LcTurn X scope tg elt ifs is d acc r3 G3 (I (k + 1))) ∧
      ∀ acc r3 G3, I ds.length acc r3 G3 → Q (.fr (.lst acc)) r3 G3
/-- .. its result known at R -/
def atR (Q : Res → Env2 → GD → Prop) : Res → Env2 → GD → Prop := fun x r1 G1 => ∃ R, Wk r1 R ∧ (∀ i, x ≠ .pk i) ∧ Q x R G1
theorem Wk.set {a b : Env2} (w : Wk a b) (s : Sl) : ∀ i, Wk (a.set i s) (b.set i s) := by
  induction w with
  | nil => intro i; exact .nil
  | no h ih => intro i; cases i with
    | zero => exact .eq h
    | succ i => exact .no (ih i)
  | eq h ih => intro i; cases i with
    | zero => exact .eq h
    | succ i => exact .eq (ih i)
theorem we_lcQ {scope : Scope} (own : List (Str × Nat)) {Q : Res → Env2 → GD → Prop} (hc : X.calm = true) (hN : X.N.Nodup) (ok : BlkOk X.N X.env.scope scope own) (h : LcPre X scope tg e elt ifs (own.map (·.2)) r G (atR Q)) (hs : ∀ x, foldedSetIterable e X.env x = pure x := by intro _; rfl) :
    WE X (.ListComp elt [⟨tg, e, ifs, 0⟩] scope pos) r G Q := WE.wkp (we_lc own hc hN ok h hs)
/-- y = [..] -/
theorem wb_setLcQ {scope : Scope} (own : List (Str × Nat)) (i : Nat) {y : Str} {py spos : Pos} (hc : X.calm = true) (hN : X.N.Nodup) (hy : X.N[i]? = some y) (hyl : X.env.scope.names.lookup y = some .local)
    (hsw : swapsWith (.ListComp elt [⟨tg, e, ifs, 0⟩] scope pos) (some (.Name y py)) spos.line X.env = pure true) (ok : BlkOk X.N X.env.scope scope own)
    (h : LcPre X scope tg e elt ifs (own.map (·.2)) r G (atR fun x R G1 => i < R.length ∧ ∃ R', putS R i x = some R' ∧ WB X rest R' G1 D0)) (hs : ∀ x, foldedSetIterable e X.env x = pure x := by intro _; rfl) :
    WB X (.Assign [.Name y py] (.ListComp elt [⟨tg, e, ifs, 0⟩] scope pos) spos :: rest) r G D0 :=
  wb_cons (ws_setLc own i hc hN hy hyl hsw ok (WI.mono h fun ds r2 G1 ⟨I, i0, it, ie⟩ => ⟨I, i0, it, fun acc r3 G3 q => by
    obtain ⟨R, w, _, hi, R', hR, k⟩ := ie acc r3 G3 q
    cases hR
    exact ⟨by rw [← w.len]; exact hi, _, rfl, k.weak (w.set _ i)⟩⟩) hs)
/-- [elt for tg in e], nothing that may fail -/
theorem lc0_pre {scope : Scope} (own : List (Str × Nat)) (R : Env2) {en : α → D} (ey : β → D) (g : α → β) {Q : Res → Env2 → GD → Prop}
    (h : WI X tg e r G fun ds r2 G1 => ∃ xs : List α, ds = xs.map en ∧ xs.length ≤ LIM ∧ Wk (wipeD r2 (own.map (·.2))) R ∧
      (∀ x, Blk X scope fun Y => WG Y tg (en x) R G1 (own.map (·.2)) fun r3 G3 => Blk X scope fun Y => WE Y elt r3 G3 (Made R G1 (own.map (·.2)) (ey (g x)))) ∧ Q (.fr (.lst ((xs.map g).map ey))) R G1) : LcPre X scope tg e elt [] (own.map (·.2)) r G (atR Q) :=
  h.mono fun ds r2 G1 ⟨xs, hd, hl, w, hb, q⟩ => by
    subst hd
    refine ⟨fun k acc r3 G3 => Wk r3 R ∧ G3 = G1 ∧ acc = ((xs.take k).map g).map ey, ⟨w, rfl, rfl⟩, fun k d acc r3 G3 hd ⟨w3, hG, ha⟩ => ?_, fun acc r3 G3 ⟨w3, hG, ha⟩ => ?_⟩
    · subst hG ha
      obtain ⟨x, hx, rfl⟩ := map_at hd
      have hlt : k < xs.length := (List.getElem?_eq_some_iff.mp hx).1
      intro Y hY
      refine WG.mono (WG.weak w3 (hb x Y hY)) fun r4 G4 q' Y hY => (q' Y hY).mono fun zz r5 G5 ⟨r6, m1, m2, m3⟩ => ⟨ey (g x), r6, m1, ?_, m2, m3, ?_⟩
      · rw [List.length_map, List.length_map, List.length_take]; omega
      · rw [List.take_add_one, hx, List.map_append, List.map_append]; rfl
    · subst hG ha
      rw [List.length_map, List.take_length]
      exact ⟨R, w3, (fun i z => by cases z), q⟩
/-- [elt for tg in e if c] -/
theorem filter_at {p : α → Bool} {xs : List α} {k : Nat} {x : α} (hx : xs[k]? = some x) : (xs.take (k + 1)).filter p = (xs.take k).filter p ++ (if p x = true then [x] else []) := by
  rw [List.take_add_one, hx, List.filter_append]
  congr 1
  show List.filter p [x] = _
  by_cases h : p x = true <;> simp [h]
theorem lc1_pre {scope : Scope} (own : List (Str × Nat)) (R : Env2) {en : α → D} (ey : β → D) (p : α → Bool) (g : α → β) {Q : Res → Env2 → GD → Prop}
    (h : WI X tg e r G fun ds r2 G1 => ∃ xs : List α, ds = xs.map en ∧ xs.length ≤ LIM ∧ Wk (wipeD r2 (own.map (·.2))) R ∧
      (∀ x, Blk X scope fun Y => WG Y tg (en x) R G1 (own.map (·.2)) fun r3 G3 => Blk X scope fun Y => WT Y c r3 G3 fun b r4 G4 => b = p x ∧
        (p x = true → Blk X scope fun Y => WE Y elt r4 G4 (Made R G1 (own.map (·.2)) (ey (g x)))) ∧ (p x = false → Wk (wipeD r4 (own.map (·.2))) R ∧ G4 = G1)) ∧ Q (.fr (.lst (((xs.filter p).map g).map ey))) R G1) : LcPre X scope tg e elt [c] (own.map (·.2)) r G (atR Q) :=
  h.mono fun ds r2 G1 ⟨xs, hd, hl, w, hb, q⟩ => by
    subst hd
    refine ⟨fun k acc r3 G3 => Wk r3 R ∧ G3 = G1 ∧ acc = (((xs.take k).filter p).map g).map ey, ⟨w, rfl, rfl⟩, fun k d acc r3 G3 hd ⟨w3, hG, ha⟩ => ?_, fun acc r3 G3 ⟨w3, hG, ha⟩ => ?_⟩
    · subst hG ha
      obtain ⟨x, hx, rfl⟩ := map_at hd
      have hlt : k < xs.length := (List.getElem?_eq_some_iff.mp hx).1
      intro Y hY
      refine WG.mono (WG.weak w3 (hb x Y hY)) fun r4 G4 q' Y hY => (q' Y hY).mono fun b r5 G5 ⟨hbp, q1, q2⟩ => ⟨fun hb1 Y hY => ?_, fun hb0 => ?_⟩
      · have hp : p x = true := hbp ▸ hb1
        refine (q1 hp Y hY).mono fun zz r6 G6 ⟨r7, m1, m2, m3⟩ => ⟨ey (g x), r7, m1, ?_, m2, m3, ?_⟩
        · rw [List.length_map, List.length_map]
          have h1 := List.length_filter_le p (xs.take k)
          rw [List.length_take] at h1
          omega
        · rw [filter_at hx, if_pos hp, List.map_append, List.map_append]; rfl
      · have hp : p x = false := hbp ▸ hb0
        obtain ⟨w5, hG5⟩ := q2 hp
        refine ⟨w5, hG5, ?_⟩
        rw [filter_at hx, if_neg (by rw [hp]; exact Bool.false_ne_true), List.append_nil]
    · subst hG ha
      rw [List.length_map, List.take_length]
      exact ⟨R, w3, (fun i z => by cases z), q⟩
/-- [elt for tg in e if ..], by a mirror with a state -/
theorem compS_step {f : σT → α → Out (Option β × σT)} {xs : List α} {acc : List β} {s : σT} {x : α} {kk : List β × σT → Out γ} {Q : γ → Prop} {E : Xm → Prop} (h : ((Out.compS f (x :: xs) acc s).bind kk).sat Q E) :
    (f s x).sat (fun t => ((Out.compS f xs (match t.1 with | some y => acc ++ [y] | none => acc) t.2).bind kk).sat Q E) E := by
  have z : (((f s x).bind fun t => Out.compS f xs (match t.1 with | some y => acc ++ [y] | none => acc) t.2).bind kk).sat Q E := h
  cases hf : f s x with
  | ok t => rw [hf] at z; exact z
  | ex x' => rw [hf] at z; exact z
  | no => rw [hf] at z; exact z
theorem lcS_pre {scope : Scope} (own : List (Str × Nat)) (R : Env2) (gg : σT → GD) {en : α → D} (ey : β → D) {Q : Res → Env2 → GD → Prop}
    (h : WI X tg e r G fun ds r2 G1 => ∃ (xs : List α) (s0 : σT) (f : σT → α → Out (Option β × σT)) (kk : List β × σT → Out γ) (Q0 : γ → Prop) (E : Xm → Prop), ds = xs.map en ∧ xs.length ≤ LIM ∧ Wk (wipeD r2 (own.map (·.2))) R ∧ G1 = gg s0 ∧ ((Out.compS f xs [] s0).bind kk).sat Q0 E ∧
      (∀ s x (Q' : Option β × σT → Prop), (f s x).sat Q' E → Blk X scope fun Y => WG Y tg (en x) R (gg s) (own.map (·.2)) fun r3 G3 => match ifs with
        | [] => Blk X scope fun Y => WE Y elt r3 G3 fun z r4 G4 => ∃ y s' r5, fz r4 z = some (ey y, r5) ∧ Wk (wipeD r5 (own.map (·.2))) R ∧ G4 = gg s' ∧ Q' (some y, s')
        | [c] => Blk X scope fun Y => WT Y c r3 G3 fun b r4 G4 => (b = true → Blk X scope fun Y => WE Y elt r4 G4 fun z r5 G5 => ∃ y s' r6, fz r5 z = some (ey y, r6) ∧ Wk (wipeD r6 (own.map (·.2))) R ∧ G5 = gg s' ∧ Q' (some y, s')) ∧ (b = false → ∃ s', Wk (wipeD r4 (own.map (·.2))) R ∧ G4 = gg s' ∧ Q' (none, s'))
        | _ => False) ∧ ∀ ys s', (kk (ys, s')).sat Q0 E → Q (.fr (.lst (ys.map ey))) R (gg s')) : LcPre X scope tg e elt ifs (own.map (·.2)) r G (atR Q) :=
  h.mono fun ds r2 G1 ⟨xs, s0, f, kk, Q0, E, hd, hl, w, hg, h0, hb, hq⟩ => by
    subst hd hg
    refine ⟨fun k acc r3 G3 => ∃ ys s, Wk r3 R ∧ G3 = gg s ∧ acc = ys.map ey ∧ ys.length ≤ k ∧ ((Out.compS f (xs.drop k) ys s).bind kk).sat Q0 E, ⟨[], s0, w, rfl, rfl, Nat.le_refl _, h0⟩, fun k d acc r3 G3 hd ⟨ys, s, w3, hG, ha, hly, hq3⟩ => ?_, fun acc r3 G3 ⟨ys, s, w3, hG, ha, hly, hq3⟩ => ?_⟩
    · subst hG ha
      obtain ⟨x, hx, rfl⟩ := map_at hd
      have hlt : k < xs.length := (List.getElem?_eq_some_iff.mp hx).1
      rw [drop_at hx] at hq3
      have st := hb s x _ (compS_step hq3)
      have lim : (ys.map ey).length < LIM := by rw [List.length_map]; omega
      intro Y hY
      refine WG.mono (WG.weak w3 (st Y hY)) fun r4 G4 q' => ?_
      match ifs, q' with
      | [], q' =>
        refine fun Y hY => (q' Y hY).mono fun zz r5 G5 ⟨y, s', r6, m1, m2, m3, m4⟩ => ⟨ey y, r6, m1, lim, ys ++ [y], s', m2, m3, by rw [List.map_append]; rfl, by rw [List.length_append]; exact Nat.succ_le_succ hly, m4⟩
      | [c], q' =>
        refine fun Y hY => (q' Y hY).mono fun b r5 G5 ⟨q1, q2⟩ => ⟨fun hb1 Y hY => ?_, fun hb0 => ?_⟩
        · exact (q1 hb1 Y hY).mono fun zz r6 G6 ⟨y, s', r7, m1, m2, m3, m4⟩ => ⟨ey y, r7, m1, lim, ys ++ [y], s', m2, m3, by rw [List.map_append]; rfl, by rw [List.length_append]; exact Nat.succ_le_succ hly, m4⟩
        · obtain ⟨s', m2, m3, m4⟩ := q2 hb0
          exact ⟨ys, s', m2, m3, rfl, Nat.le_succ_of_le hly, m4⟩
      | _ :: _ :: _, q' => exact q'.elim
    · subst hG ha
      rw [List.length_map, List.drop_length] at hq3
      exact ⟨R, w3, (fun i z => by cases z), hq ys s hq3⟩
end
open Out (Rt)
section
variable {κ ν : Type} [DecidableEq κ]
theorem dmk_snoc (kvs : List (κ × ν)) (p : κ × ν) : dmk (kvs ++ [p]) = dput (dmk kvs) p.1 p.2 := by unfold dmk; rw [List.foldl_append]; rfl
theorem dmk_len : ∀ (kvs : List (κ × ν)), (dmk kvs).length ≤ kvs.length := by
  have key : ∀ (kvs acc : List (κ × ν)), (kvs.foldl (fun acc p => dput acc p.1 p.2) acc).length ≤ acc.length + kvs.length := by
    intro kvs
    induction kvs with
    | nil => intro acc; exact Nat.le_refl _
    | cons p kvs ih =>
      intro acc
      rw [List.foldl_cons, List.length_cons]
      have h1 := ih (dput acc p.1 p.2)
      have h2 := dput_len acc p.1 p.2
      omega
  intro kvs
  have := key kvs []
  rw [List.length_nil, Nat.zero_add] at this
  exact this
end
section
variable {X : Cy} {e a b c o tg kx vx elt i : Expr} {es ifs : List Expr} {st : Stmt} {sts rest body orelse : List Stmt} {r : Env2} {G : GD} {pos tpos apos cpos p0 : Pos} {D0 : EndsD} {α β γ σT ρ : Type}
theorem we_ifP {en : α → D} {va vb : α} {Q : Res → Env2 → GD → Prop} (h : WT X c r G fun d r1 G1 => (d = true → WE X a r1 G1 fun x r2 G2 => x = .sh (en va) ∧ r2 = r1 ∧ G2 = G1) ∧ (d = false → WE X b r1 G1 fun x r2 G2 => x = .sh (en vb) ∧ r2 = r1 ∧ G2 = G1) ∧ Q (.sh (en (if d = true then va else vb))) r1 G1) : WE X (.IfExp c a b pos) r G Q :=
  we_ifExp (h.mono fun d r1 G1 ⟨h1, h2, q⟩ => ⟨fun hd => (h1 hd).mono fun x r2 G2 ⟨m1, m2, m3⟩ => by subst m1 m2 m3; rw [if_pos hd] at q; exact q, fun hd => (h2 hd).mono fun x r2 G2 ⟨m1, m2, m3⟩ => by subst m1 m2 m3; rw [if_neg (by rw [hd]; exact Bool.false_ne_true)] at q; exact q⟩)
/-- a test as a value, joined -/
theorem we_andP {c2 : Bool} {Q : Res → Env2 → GD → Prop} (h : WE X a r G fun x r1 G1 => ∃ c1, x = .sh (.bl c1) ∧ (c1 = true → WE X (.BoolOp .And (b :: es) pos) r1 G1 fun y r2 G2 => y = .sh (.bl c2) ∧ r2 = r1 ∧ G2 = G1) ∧ Q (.sh (.bl (c1 && c2))) r1 G1) : WE X (.BoolOp .And (a :: b :: es) pos) r G Q :=
  we_and (h.mono fun x r1 G1 ⟨c1, hx, h1, q⟩ => ⟨c1, hx, fun hc => (h1 hc).mono fun y r2 G2 ⟨m1, m2, m3⟩ => by subst m1 m2 m3; rw [hc, Bool.true_and] at q; exact q, fun hc => by rw [hc, Bool.false_and] at q; exact q⟩)
/-- the same of tests -/
theorem WW.monoT {Q Q' : Bool → Env2 → GD → Prop} (h : WW X e r G Q) (k : ∀ x r' G', Q x r' G' → Q' x r' G') : WW X e r G Q' := fun F0 T F H σ lk S w pins s I =>
  wpAny_mono (h F0 T F H σ lk S w pins s I) (fun _ _ ⟨H', I', r', G', F', a, b, q⟩ => ⟨H', I', r', G', F', a, b, k _ _ _ q⟩) fun _ _ x => x
end
section
variable {α β γ : Type}
/-- an item by a Python index -/
def pix (xs : List α) (i : Int) : Option α := (ixN xs.length i).bind fun j => xs[j]?
theorem atD_map {f : α → D} {xs : List α} {i : Int} {x : α} (h : pix xs i = some x) : atD (xs.map f) i = some (f x) := by
  unfold pix at h
  unfold atD
  rw [List.length_map]
  cases e : ixN xs.length i with
  | none => rw [e] at h; cases h
  | some j =>
    rw [e] at h
    show (xs.map f)[j]? = some (f x)
    rw [List.getElem?_map, show xs[j]? = some x from h]; rfl
/-- a slice by Python bounds -/
def pcut (xs : List α) (lo hi : Option Int) : List α := (xs.drop (HT.sIx xs.length 0 lo)).take (HT.sIx xs.length xs.length hi - HT.sIx xs.length 0 lo)
theorem cutD_map {f : α → D} (xs : List α) (lo hi : Option Int) : cutD (xs.map f) lo hi = (pcut xs lo hi).map f := by
  unfold cutD pcut
  rw [List.length_map, List.map_take, List.map_drop]
theorem pcut_from (xs : List α) (j : Nat) : pcut xs (some (j : Int)) none = xs.drop j := by
  unfold pcut
  rw [HT.sIx_nat, HT.sIx_none]
  by_cases h : j ≤ xs.length
  · rw [Nat.min_eq_left h, List.take_of_length_le (by rw [List.length_drop]; exact Nat.le_refl _)]
  · rw [Nat.min_eq_right (by omega), List.drop_length, List.drop_eq_nil_of_le (by omega)]
    simp
theorem pcut_to (xs : List α) (j : Nat) : pcut xs none (some (j : Int)) = xs.take j := by
  unfold pcut
  rw [HT.sIx_nat, HT.sIx_none, List.drop_zero, Nat.sub_zero]
  by_cases h : j ≤ xs.length
  · rw [Nat.min_eq_left h]
  · rw [Nat.min_eq_right (by omega), List.take_length, List.take_of_length_le (by omega)]
/-- codes whose equality is that of the values -/
structure EqC (en : α → D) (n : Nat) : Prop where
  ok : ∀ a, okD n (en a)
  eq : ∀ a b, eqD (en a) (en b) = true ↔ a = b
theorem EqC.dec [DecidableEq α] {en : α → D} {n : Nat} (h : EqC en n) (a b : α) : eqD (en a) (en b) = decide (a = b) := by
  by_cases e : a = b
  · rw [decide_eq_true e]; exact (h.eq a b).mpr e
  · rw [decide_eq_false e]
    cases q : eqD (en a) (en b) with
    | false => rfl
    | true => exact absurd ((h.eq a b).mp q) e
theorem eqc_int : EqC eI 0 := ⟨fun _ => trivial, fun a b => by
  show PyData.eqv (.int a) (.int b) = true ↔ a = b
  exact beq_iff_eq⟩
theorem okD_up : ∀ {n : Nat} {d : D}, okD n d → okD (n + 1) d := by
  intro n
  induction n with
  | zero => intro d h; cases d <;> first | exact h | exact h.elim | trivial
  | succ n ih =>
    intro d h
    cases d <;> first | exact h.elim | trivial | (intro x hx; exact ih (h x hx))
end
open Out (Rt)
abbrev S := { x : Str // PyData.strOk x = true }
abbrev eZ : S → D := fun s => .str s.1
abbrev kZ : S → Key := fun s => Sum.inr s.1
theorem kZ_inj : KInj kZ := fun a b h => Subtype.ext (Sum.inr.inj h)
theorem eqc_bool : EqC eB 0 := ⟨fun _ => trivial, fun a b => by
  show PyData.eqv (.bool a) (.bool b) = true ↔ a = b
  exact beq_iff_eq⟩
theorem eqc_str : EqC eZ 0 := ⟨fun a => a.2, fun a b => by
  show PyData.eqv (.str a.1) (.str b.1) = true ↔ a = b
  rw [show PyData.eqv (.str a.1) (.str b.1) = (a.1 == b.1) from rfl, beq_iff_eq]
  exact ⟨Subtype.ext, congrArg _⟩⟩
theorem eqv_all {α : Type} {f : α → D} {n : Nat} (h : EqC f n) : ∀ xs ys : List α, PyData.eqvAll (toPs (xs.map f)) (toPs (ys.map f)) = true ↔ xs = ys
  | [], [] => by simp [toPs, PyData.eqvAll]
  | [], y :: ys => by simp [toPs, PyData.eqvAll]
  | x :: xs, [] => by simp [toPs, PyData.eqvAll]
  | x :: xs, y :: ys => by
    show (PyData.eqv (toP (f x)) (toP (f y)) && PyData.eqvAll (toPs (xs.map f)) (toPs (ys.map f))) = true ↔ _
    rw [Bool.and_eq_true, eqv_all h xs ys, show PyData.eqv (toP (f x)) (toP (f y)) = true ↔ x = y from h.eq x y, List.cons.injEq]
theorem eqc_tup {α : Type} {f : α → D} {n : Nat} (h : EqC f n) : EqC (eT f) (n + 1) := ⟨fun xs d hd => by
  obtain ⟨x, _, rfl⟩ := List.mem_map.mp hd
  exact h.ok x, fun a b => eqv_all h a b⟩
theorem eqc_lst {α : Type} {f : α → D} {n : Nat} (h : EqC f n) : EqC (eL f) (n + 1) := ⟨fun xs d hd => by
  obtain ⟨x, _, rfl⟩ := List.mem_map.mp hd
  exact h.ok x, fun a b => eqv_all h a b⟩
theorem okD_mono {n m : Nat} {d : D} (h : okD n d) (hm : n ≤ m) : okD m d := by
  induction hm with
  | refl => exact h
  | step _ ih => exact okD_up ih
theorem eqc_pair {α β : Type} {f : α → D} {g : β → D} {n : Nat} (h : EqC f n) (k : EqC g n) : EqC (eP f g) (n + 1) := ⟨fun p d hd => by
  rcases List.mem_cons.mp hd with rfl | hd
  · exact h.ok _
  · rcases List.mem_cons.mp hd with rfl | hd
    · exact k.ok _
    · exact absurd hd List.not_mem_nil, fun a b => by
  show (PyData.eqv (toP (f a.1)) (toP (f b.1)) && (PyData.eqv (toP (g a.2)) (toP (g b.2)) && true)) = true ↔ _
  rw [Bool.and_true, Bool.and_eq_true, show PyData.eqv (toP (f a.1)) (toP (f b.1)) = true ↔ _ from h.eq _ _, show PyData.eqv (toP (g a.2)) (toP (g b.2)) = true ↔ _ from k.eq _ _, Prod.ext_iff]⟩
theorem eqc_trip {α β γ : Type} {f : α → D} {g : β → D} {k : γ → D} {n : Nat} (h : EqC f n) (h2 : EqC g n) (h3 : EqC k n) : EqC (eP3 f g k) (n + 1) := ⟨fun p d hd => by
  rcases List.mem_cons.mp hd with rfl | hd
  · exact h.ok _
  · rcases List.mem_cons.mp hd with rfl | hd
    · exact h2.ok _
    · rcases List.mem_cons.mp hd with rfl | hd
      · exact h3.ok _
      · exact absurd hd List.not_mem_nil, fun a b => by
  show (PyData.eqv (toP (f a.1)) (toP (f b.1)) && (PyData.eqv (toP (g a.2.1)) (toP (g b.2.1)) && (PyData.eqv (toP (k a.2.2)) (toP (k b.2.2)) && true))) = true ↔ _
  rw [Bool.and_true, Bool.and_eq_true, Bool.and_eq_true, show PyData.eqv (toP (f a.1)) (toP (f b.1)) = true ↔ _ from h.eq _ _, show PyData.eqv (toP (g a.2.1)) (toP (g b.2.1)) = true ↔ _ from h2.eq _ _, show PyData.eqv (toP (k a.2.2)) (toP (k b.2.2)) = true ↔ _ from h3.eq _ _, Prod.ext_iff, Prod.ext_iff]⟩
section
variable {X : Cy} {e a b c o tg kx vx elt i : Expr} {es ifs : List Expr} {st : Stmt} {sts rest body orelse : List Stmt} {r : Env2} {G : GD} {pos tpos apos cpos p0 : Pos} {D0 : EndsD} {α β γ σT ρ : Type}
theorem opw_eqC [DecidableEq α] {en : α → D} {n : Nat} (h : EqC en n) (hu : X.A.units + 64 < cLine) (x y : α) {Q : Res → Prop} (q : Q (.sh (.bl (decide (x = y))))) (hn : n ≤ 64 := by decide) : OpW X (compareOp .Eq) (en x) (en y) Q :=
  opw_eqD hu (h.ok x) (h.ok y) hn (by rw [h.dec]; exact q)
theorem opw_neC [DecidableEq α] {en : α → D} {n : Nat} (h : EqC en n) (hu : X.A.units + 64 < cLine) (x y : α) {Q : Res → Prop} (q : Q (.sh (.bl (!decide (x = y))))) (hn : n ≤ 64 := by decide) : OpW X (compareOp .NotEq) (en x) (en y) Q :=
  opw_neD hu (h.ok x) (h.ok y) hn (by rw [h.dec]; exact q)
theorem t_cat {f : α → D} (xs ys : List α) {Q : Res → Prop} (hl : xs.length + ys.length ≤ LIM) (q : Q (.fr (.lst ((xs ++ ys).map f)))) : OpW X (binaryOp .Add) (.lst (xs.map f)) (.lst (ys.map f)) Q :=
  opw_cat (by rw [List.length_map, List.length_map]; exact hl) (by rw [List.map_append] at q; exact q)
theorem t_catT {f : α → D} (xs ys : List α) {Q : Res → Prop} (hl : xs.length + ys.length ≤ LIM) (q : Q (.sh (.tup ((xs ++ ys).map f)))) : OpW X (binaryOp .Add) (.tup (xs.map f)) (.tup (ys.map f)) Q :=
  opw_catT (by rw [List.length_map, List.length_map]; exact hl) (by rw [List.map_append] at q; exact q)
theorem t_len {f : α → D} (xs : List α) {Q : Res → Prop} (q : Q (.sh (.int (xs.length : Nat)))) : CallW1 X (.builtin "len") (.lst (xs.map f)) Q := c_len (by rw [List.length_map]; exact q)
theorem t_lenT {f : α → D} (xs : List α) {Q : Res → Prop} (q : Q (.sh (.int (xs.length : Nat)))) : CallW1 X (.builtin "len") (.tup (xs.map f)) Q := c_lenT (by rw [List.length_map]; exact q)
theorem t_ix {f : α → D} {xs : List α} {i : Int} {x : α} {Q : Res → Prop} (h : pix xs i = some x) (q : Q (.sh (f x))) : IxW X (.lst (xs.map f)) (.int i) Q := ixw_lst (atD_map h) q
theorem t_ixT {f : α → D} {xs : List α} {i : Int} {x : α} {Q : Res → Prop} (h : pix xs i = some x) (q : Q (.sh (f x))) : IxW X (.tup (xs.map f)) (.int i) Q := ixw_tup (atD_map h) q
theorem t_sl {f : α → D} {xs : List α} {lo hi : Option Int} {Q : Res → Prop} (q : Q (.fr (.lst ((pcut xs lo hi).map f)))) : SlW X (.lst (xs.map f)) lo hi Q := slw_lst (by rw [cutD_map]; exact q)
theorem t_slT {f : α → D} {xs : List α} {lo hi : Option Int} {Q : Res → Prop} (q : Q (.sh (.tup ((pcut xs lo hi).map f)))) : SlW X (.tup (xs.map f)) lo hi Q := slw_tup (by rw [cutD_map]; exact q)
/-- xs.append(e), xs an own slot -/
theorem we_appendT {f : α → D} {Q : Res → Env2 → GD → Prop}
    (h : WE X o r G fun x r1 G1 => ∃ i xs0, x = .pk i ∧ r1[i]? = some (.own (.lst (List.map f xs0))) ∧ WE X e r1 G1 fun y r2 G2 => ∃ z r3 xs, fz r2 y = some (f z, r3) ∧ r3[i]? = some (.own (.lst (List.map f xs))) ∧ xs.length < LIM ∧ Q (.sh .non) (r3.set i (.own (.lst ((xs ++ [z]).map f)))) G2)
    (hbase : attributeBase o "append" X.env (eval o X.env) = eval o X.env := by rfl)
    (hfew : ((backTo cpos (starEach [e] X.env)).all (fun x => !x.1) && (backToKw cpos (keywordEach [] X.env)).all (fun x => x.1.isSome) && decide (([e] : List Expr).length + ([] : List Keyword).length + (if ([] : List Keyword).isEmpty then 0 else 1) < 30)) = true := by rfl)
    (hline : (apos.endLine == cpos.line) = true := by rfl) (hs : starEach [e] X.env = (false, eval e X.env) :: starEach [] X.env := by rfl) (hplain : (backTo cpos (starEach [] X.env)).any (·.1) = false := by rfl) :
    WE X (.Call (.Attribute o "append" apos) [e] [] cpos) r G Q :=
  we_append (h.mono fun x r1 G1 ⟨i, xs0, h1, h2, h3⟩ => ⟨i, _, h1, h2, h3.mono fun y r2 G2 ⟨z, r3, xs, k1, k2, k3, k4⟩ => ⟨f z, r3, _, k1, k2, by rw [List.length_map]; exact k3, by rw [List.map_append] at k4; exact k4⟩⟩) hbase hfew hline hs hplain
def penumF (k : Nat) : List α → List (Int × α)
  | [] => []
  | x :: xs => ((k : Int), x) :: penumF (k + 1) xs
/-- enumerate -/
def penum (xs : List α) : List (Int × α) := penumF 0 xs
theorem enum_map {f : α → D} : ∀ (xs : List α) (k : Nat), enumD k (xs.map f) = (penumF k xs).map (eP eI f)
  | [], k => rfl
  | x :: xs, k => by
    rw [List.map_cons]
    show D.tup [.int (k : Int), f x] :: enumD (k + 1) (xs.map f) = _
    rw [enum_map xs (k + 1)]; rfl
theorem penumF_len : ∀ (xs : List α) (k : Nat), (penumF k xs).length = xs.length
  | [], _ => rfl
  | x :: xs, k => by unfold penumF; rw [List.length_cons, List.length_cons, penumF_len xs]
section
variable {elts : List Expr} {kk : Nat}
theorem ti_lst {f : α → D} {Q : List D → Env2 → GD → Prop} (h : WE X e r G fun x r1 G1 => ∃ xs r2, fz r1 x = some (.lst (List.map f xs), r2) ∧ (xs.length ≤ LIM → Q (xs.map f) r2 G1)) : WI X tg e r G Q :=
  wi_lst (h.mono fun x r1 G1 ⟨xs, r2, h1, h2⟩ => ⟨_, r2, h1, fun hl => h2 (by rw [List.length_map] at hl; exact hl)⟩)
theorem ti_tup {f : α → D} {Q : List D → Env2 → GD → Prop} (h : WE X e r G fun x r1 G1 => ∃ xs r2, fz r1 x = some (.tup (List.map f xs), r2) ∧ (xs.length ≤ LIM → Q (xs.map f) r2 G1)) : WI X tg e r G Q :=
  wi_tup (h.mono fun x r1 G1 ⟨xs, r2, h1, h2⟩ => ⟨_, r2, h1, fun hl => h2 (by rw [List.length_map] at hl; exact hl)⟩)
theorem ti_enumL {f : α → D} {Q : List D → Env2 → GD → Prop} (hg : Gl X "enumerate") (hm : X.mg "enumerate" = none) (h : WE X a r G fun x r1 G1 => ∃ xs r2, fz r1 x = some (.lst (List.map f xs), r2) ∧ ((penum xs).length ≤ LIM → Q ((penum xs).map (eP eI f)) r2 G1)) (hst : starEach [a] X.env = [(false, eval a X.env)] := by rfl) :
    WI X (.Tuple elts kk tpos) (.Call (.Name "enumerate" p0) [a] [] pos) r G Q :=
  wi_enumL hg hm (h.mono fun x r1 G1 ⟨xs, r2, h1, h2⟩ => ⟨_, r2, h1, fun hl => by rw [enum_map]; exact h2 (by unfold penum; rw [penumF_len]; rw [List.length_map] at hl; exact hl)⟩) hst
theorem ti_enumT {f : α → D} {Q : List D → Env2 → GD → Prop} (hg : Gl X "enumerate") (hm : X.mg "enumerate" = none) (h : WE X a r G fun x r1 G1 => ∃ xs r2, fz r1 x = some (.tup (List.map f xs), r2) ∧ ((penum xs).length ≤ LIM → Q ((penum xs).map (eP eI f)) r2 G1)) (hst : starEach [a] X.env = [(false, eval a X.env)] := by rfl) :
    WI X (.Tuple elts kk tpos) (.Call (.Name "enumerate" p0) [a] [] pos) r G Q :=
  wi_enumT hg hm (h.mono fun x r1 G1 ⟨xs, r2, h1, h2⟩ => ⟨_, r2, h1, fun hl => by rw [enum_map]; exact h2 (by unfold penum; rw [penumF_len]; rw [List.length_map] at hl; exact hl)⟩) hst
theorem ti_revL {f : α → D} {Q : List D → Env2 → GD → Prop} (hg : Gl X "reversed") (hm : X.mg "reversed" = none) (h : WE X a r G fun x r1 G1 => ∃ xs r2, fz r1 x = some (.lst (List.map f xs), r2) ∧ (xs.reverse.length ≤ LIM → Q (xs.reverse.map f) r2 G1)) (hst : starEach [a] X.env = (false, eval a X.env) :: starEach [] X.env := by rfl) :
    WI X tg (.Call (.Name "reversed" p0) [a] [] pos) r G Q :=
  wi_revL hg hm (h.mono fun x r1 G1 ⟨xs, r2, h1, h2⟩ => ⟨_, r2, h1, fun hl => by rw [← List.map_reverse]; exact h2 (by rw [List.length_reverse]; rw [List.length_map] at hl; exact hl)⟩) hst
theorem ti_keys {κ ν : Type} {k : κ → Key} {f : ν → D} {Q : List D → Env2 → GD → Prop} (h : WE X e r G fun x r1 G1 => ∃ kvs r2, fz r1 x = some (eD k f kvs, r2) ∧ ((kvs.map (·.1)).length ≤ LIM → Q ((kvs.map (·.1)).map fun x => kD (k x)) r2 G1)) : WI X tg e r G Q :=
  wi_keys (h.mono fun x r1 G1 ⟨kvs, r2, h1, h2⟩ => ⟨_, _, r2, h1, fun hl => by
    rw [List.length_map] at hl
    have := h2 (by rw [List.length_map]; exact hl)
    rw [List.map_map] at this ⊢
    exact this⟩)
end
/-- max, min of a list of ints -/
def maxI : List Int → Option Int
  | [] => none
  | x :: xs => some (xs.foldl (fun a b => if a < b then b else a) x)
def minI : List Int → Option Int
  | [] => none
  | x :: xs => some (xs.foldl (fun a b => if b < a then b else a) x)
theorem fold_max : ∀ (xs : List Int) (x : Int), (xs.foldl (fun a b => if a < b then b else a) x ∈ x :: xs) ∧ ∀ y ∈ x :: xs, y ≤ xs.foldl (fun a b => if a < b then b else a) x
  | [], x => ⟨List.mem_cons_self, fun y hy => by cases List.mem_singleton.mp hy; exact Int.le_refl _⟩
  | z :: xs, x => by
    rw [List.foldl_cons]
    by_cases hxz : x < z
    · rw [if_pos hxz]
      obtain ⟨h1, h2⟩ := fold_max xs z
      have h3 := h2 _ List.mem_cons_self
      refine ⟨List.mem_cons_of_mem _ h1, fun y hy => ?_⟩
      rcases List.mem_cons.mp hy with rfl | hy
      · omega
      · exact h2 y hy
    · rw [if_neg hxz]
      obtain ⟨h1, h2⟩ := fold_max xs x
      have h3 := h2 _ List.mem_cons_self
      refine ⟨?_, fun y hy => ?_⟩
      · rcases List.mem_cons.mp h1 with h | h
        · rw [h]; exact List.mem_cons_self
        · exact List.mem_cons_of_mem _ (List.mem_cons_of_mem _ h)
      · rcases List.mem_cons.mp hy with rfl | hy
        · exact h3
        · rcases List.mem_cons.mp hy with rfl | hy
          · omega
          · exact h2 y (List.mem_cons_of_mem _ hy)
theorem fold_min : ∀ (xs : List Int) (x : Int), (xs.foldl (fun a b => if b < a then b else a) x ∈ x :: xs) ∧ ∀ y ∈ x :: xs, xs.foldl (fun a b => if b < a then b else a) x ≤ y
  | [], x => ⟨List.mem_cons_self, fun y hy => by cases List.mem_singleton.mp hy; exact Int.le_refl _⟩
  | z :: xs, x => by
    rw [List.foldl_cons]
    by_cases hxz : z < x
    · rw [if_pos hxz]
      obtain ⟨h1, h2⟩ := fold_min xs z
      have h3 := h2 _ List.mem_cons_self
      refine ⟨List.mem_cons_of_mem _ h1, fun y hy => ?_⟩
      rcases List.mem_cons.mp hy with rfl | hy
      · omega
      · exact h2 y hy
    · rw [if_neg hxz]
      obtain ⟨h1, h2⟩ := fold_min xs x
      have h3 := h2 _ List.mem_cons_self
      refine ⟨?_, fun y hy => ?_⟩
      · rcases List.mem_cons.mp h1 with h | h
        · rw [h]; exact List.mem_cons_self
        · exact List.mem_cons_of_mem _ (List.mem_cons_of_mem _ h)
      · rcases List.mem_cons.mp hy with rfl | hy
        · exact h3
        · rcases List.mem_cons.mp hy with rfl | hy
          · omega
          · exact h2 y (List.mem_cons_of_mem _ hy)
theorem maxI_spec {xs : List Int} {m : Int} (h : maxI xs = some m) : m ∈ xs ∧ ∀ y ∈ xs, y ≤ m := by
  cases xs with
  | nil => cases h
  | cons x xs => cases h; exact fold_max xs x
theorem minI_spec {xs : List Int} {m : Int} (h : minI xs = some m) : m ∈ xs ∧ ∀ y ∈ xs, m ≤ y := by
  cases xs with
  | nil => cases h
  | cons x xs => cases h; exact fold_min xs x
theorem t_max {Q : Res → Prop} {ns : List Int} {m : Int} (hc : X.calm = true) (h : maxI ns = some m) (q : Q (.sh (.int m))) : CallW1 X (.builtin "max") (.lst (ns.map D.int)) Q :=
  c_maxL hc (fun z => by subst z; cases h) fun m' h1 h2 => by
    obtain ⟨k1, k2⟩ := maxI_spec h
    rw [show m' = m from Int.le_antisymm (k2 _ h1) (h2 _ k1)]; exact q
theorem t_min {Q : Res → Prop} {ns : List Int} {m : Int} (hc : X.calm = true) (h : minI ns = some m) (q : Q (.sh (.int m))) : CallW1 X (.builtin "min") (.lst (ns.map D.int)) Q :=
  c_minL hc (fun z => by subst z; cases h) fun m' h1 h2 => by
    obtain ⟨k1, k2⟩ := minI_spec h
    rw [show m' = m from Int.le_antisymm (h2 _ k1) (k2 _ h1)]; exact q
/-- the first place of a number -/
def idxI (k : Int) : List Int → Option Nat
  | [] => none
  | x :: xs => if x = k then some 0 else (idxI k xs).map (· + 1)
theorem idxI_spec {k : Int} : ∀ {xs : List Int} {j : Nat}, idxI k xs = some j → xs[j]? = some k ∧ ∀ m, m < j → xs[m]? ≠ some k
  | [], j, h => by cases h
  | x :: xs, j, h => by
    unfold idxI at h
    by_cases hx : x = k
    · rw [if_pos hx] at h; cases h
      exact ⟨by rw [hx]; rfl, fun m hm => absurd hm (Nat.not_lt_zero m)⟩
    · rw [if_neg hx] at h
      cases hi : idxI k xs with
      | none => rw [hi] at h; cases h
      | some j' =>
        rw [hi] at h; cases h
        obtain ⟨h1, h2⟩ := idxI_spec hi
        refine ⟨by rw [List.getElem?_cons_succ]; exact h1, fun m hm => ?_⟩
        cases m with
        | zero => intro z; simp at z; exact hx z
        | succ m => rw [List.getElem?_cons_succ]; exact h2 m (by have hm2 : m + 1 < j' + 1 := hm; omega)
theorem t_index {Q : Res → Prop} {ns : List Int} {k : Int} {j : Nat} (h : idxI k ns = some j) (q : Q (.sh (.int (j : Nat)))) : MtW X "list.index" (.lst (ns.map D.int)) (.int k) Q := mw_index (idxI_spec h).1 (idxI_spec h).2 q
end
open Out (Rt)
/-- a text of the mirrors -/
abbrev zs (x : Str) (h : PyData.strOk x = true := by decide) : S := ⟨x, h⟩
section
variable {X : Cy} {e a b c o tg kx vx elt i : Expr} {es ifs : List Expr} {st : Stmt} {sts rest body orelse : List Stmt} {r : Env2} {G : GD} {pos tpos apos cpos p0 : Pos} {D0 : EndsD} {α β γ σT ρ : Type}
/-- [elt for tg in e if ..], by a mirror with a state -/
theorem lcS_preP {scope : Scope} (own : List (Str × Nat)) (R : Env2) (gg : σT → GD) {en : α → D} (ey : β → D) {Q : Res → Env2 → GD → Prop}
    (h : WI X tg e r G fun ds r2 G1 => ∃ (xs : List α) (s0 : σT) (f : σT → α → Out (Option β × σT)) (kk : List β × σT → Out γ) (Q0 : γ → Prop) (E : Xm → Prop), ds = xs.map en ∧ xs.length ≤ LIM ∧ Wk (wipeD r2 (own.map (·.2))) R ∧ G1 = gg s0 ∧ ((Out.compS f xs [] s0).bind kk).sat Q0 E ∧
      (∀ s x (Q' : Option β × σT → Prop), (f s x).sat Q' E → Blk X scope fun Y => WG Y tg (en x) R (gg s) (own.map (·.2)) fun r3 G3 => match ifs with
        | [] => Blk X scope fun Y => WE Y elt r3 G3 fun z r4 G4 => ∃ y s' r5, fz r4 z = some (ey y, r5) ∧ Wk (wipeD r5 (own.map (·.2))) R ∧ G4 = gg s' ∧ Q' (some y, s')
        | [c] => Blk X scope fun Y => WT Y c r3 G3 fun b r4 G4 => (b = true → Blk X scope fun Y => WE Y elt r4 G4 fun z r5 G5 => ∃ y s' r6, fz r5 z = some (ey y, r6) ∧ Wk (wipeD r6 (own.map (·.2))) R ∧ G5 = gg s' ∧ Q' (some y, s')) ∧ (b = false → ∃ s', Wk (wipeD r4 (own.map (·.2))) R ∧ G4 = gg s' ∧ Q' (none, s'))
        | _ => False) ∧ ∀ p : List β × σT, (kk p).sat Q0 E → Q (.fr (.lst (p.1.map ey))) R (gg p.2)) : LcPre X scope tg e elt ifs (own.map (·.2)) r G (atR Q) :=
  lcS_pre own R gg ey (h.mono fun ds r2 G1 ⟨xs, s0, f, kk, Q0, E, h1, h2, h3, h4, h5, h6, h7⟩ => ⟨xs, s0, f, kk, Q0, E, h1, h2, h3, h4, h5, h6, fun ys s' q => h7 (ys, s') q⟩)
/-- dict(pairs) -/
theorem fold_putD {κ ν : Type} [DecidableEq κ] {k : κ → Key} {f : ν → D} (hk : KInj k) : ∀ (xs acc : List (κ × ν)), (eDl k f xs).foldl (fun acc kv => putD acc kv.1 kv.2) (eDl k f acc) = eDl k f (xs.foldl (fun acc p => dput acc p.1 p.2) acc)
  | [], _ => rfl
  | x :: xs, acc => by
    show (eDl k f xs).foldl _ (putD (eDl k f acc) (k x.1) (f x.2)) = _
    rw [putD_eDl hk, fold_putD hk xs]; rfl
theorem t_dictP {κ ν : Type} [DecidableEq κ] {k : κ → Key} {f : ν → D} (hk : KInj k) (hc : X.calm = true) (xs : List (κ × ν)) {Q : Res → Prop} (q : Q (.fr (eD k f (dmk xs)))) : CallW1 X (.type "dict") (.lst (xs.map (eP (fun x => kD (k x)) f))) Q := by
  have e : (xs.map (eP (fun x => kD (k x)) f)) = (eDl k f xs).map fun kv => .tup [kD kv.1, kv.2] := by
    unfold eDl; rw [List.map_map]; rfl
  rw [e]
  refine c_dictP hc ?_
  have e2 := fold_putD (f := f) hk xs []
  rw [show eDl k f [] = [] from rfl] at e2
  rw [e2, eD_dicD]
  exact q
/-- in, of items of any depth -/
theorem any_eq [DecidableEq α] {en : α → D} {n : Nat} (h : EqC en n) (x : α) : ∀ xs : List α, ((toPs (xs.map en)).any fun z => PyData.eqv z (toP (en x))) = decide (x ∈ xs)
  | [] => rfl
  | y :: xs => by
    show (PyData.eqv (toP (en y)) (toP (en x)) || (toPs (xs.map en)).any _) = _
    rw [any_eq h x xs]
    have e := h.dec y x
    unfold eqD at e
    rw [e]
    by_cases hy : x = y
    · subst hy; simp
    · rw [decide_eq_false (fun z => hy z.symm), Bool.false_or]
      simp [hy]
theorem t_ninD [DecidableEq α] {en : α → D} {n : Nat} (h : EqC en n) (hu : X.A.units + 65 < cLine) (x : α) (xs : List α) {Q : Res → Prop} (q : Q (.sh (.bl (!decide (x ∈ xs))))) (hn : n + 1 ≤ 64 := by decide) : OpW X (compareOp .NotIn) (en x) (.lst (xs.map en)) Q := by
  have h2 := eqc_lst h
  refine opw_flat (d := .bl (!decide (x ∈ xs))) (v := .bl (!decide (x ∈ xs))) (fun _ _ => rfl) (fun F H va vb ex h1 h3 => ?_) q
  exact ⟨_, op_notInD hu, fun P p => ⟨toP (en x), toPs (xs.map en), okD.dp ex _ _ _ (h.ok x) h1, okD.dp ex _ _ _ (h2.ok xs) h3, okD.shaped (h.ok x) (by omega), okD.shaped (h2.ok xs) hn, by rw [any_eq h]; exact p⟩⟩
end
open Out (Rt)
abbrev Tin (G : GD) (H : Hp) (x dx : Addr) : Hp := fun a => if a = x ∨ a = dx then none else Tof G H a
theorem Bas.tin {K : PySem.W.Frag} {F F' H H' : Hp} {G G' : GD} {x dx : Addr} (B : Bas K F (Tof G H) F' G' H') : Bas K F (Tin G H x dx) F' G' H' := by
  refine ⟨B.ff, fun a o h => ?_, B.fh, B.gh, B.fg, fun a o h => ?_, fun a o h => ?_⟩
  · rcases B.ft a o h with z | z
    · exact .inl z
    · right; show (if _ then _ else _) = _; split
      · rfl
      · exact z
  · show (if _ then _ else _) = _
    split
    · rfl
    · exact B.gt a o h
  · have h' : (if a = x ∨ a = dx then none else Tof G H a) = some o := h
    split at h'
    · cases h'
    · exact B.tk a o h'
theorem init_frame {K : PySem.W.Frag} {F H F' H' H2 : Hp} {G G' : GD} {x dx C : Addr} {vs : List (Option V)} (B : Bas K F (Tof G H) F' G' H') (fx : F x = none) (fd : F dx = none) (gx : G x = none) (gd : G dx = none) (hx : H x = some (.ins C dx [])) (hd : H dx = some (.own x)) (hne : dx ≠ x) (e2 : H2 = SlX.slH H' x C dx vs) :
    ∃ F2, Ex F' F2 ∧ Bas K F (Tin G H x dx) F2 G' H2 ∧ SlX.Slt F2 x C dx vs := by
  have tx : Tof G H x = some (.ins C dx []) := by rw [Tof_none gx]; exact hx
  have td : Tof G H dx = some (.own x) := by rw [Tof_none gd]; exact hd
  have fx' : F' x = none := by
    cases e : F' x with
    | none => rfl
    | some u =>
      rcases B.ft x u e with z | z
      · rw [fx] at z; cases z
      · rw [tx] at z; cases z
  have fd' : F' dx = none := by
    cases e : F' dx with
    | none => rfl
    | some u =>
      rcases B.ft dx u e with z | z
      · rw [fd] at z; cases z
      · rw [td] at z; cases z
  have gx' : G' x = none := by
    cases e : G' x with
    | none => rfl
    | some u => have := B.gt x u e; rw [tx] at this; cases this
  have gd' : G' dx = none := by
    cases e : G' dx with
    | none => rfl
    | some u => have := B.gt dx u e; rw [td] at this; cases this
  have h2 : ∀ a, a ≠ x → a ≠ dx → H2 a = H' a := fun a h1 h2 => by rw [e2]; exact SlX.slH_ne h1 h2
  have ef : Ex F' (SlX.slH F' x C dx vs) := fun a o h => by rw [SlX.slH_ne (ne_of_none h fx') (ne_of_none h fd')]; exact h
  have ng : ∀ {a : Addr} {o : D}, G' a = some o → a ≠ x ∧ a ≠ dx := fun {a o} h => ⟨fun z => (by rw [z, gx'] at h; cases h), fun z => (by rw [z, gd'] at h; cases h)⟩
  refine ⟨SlX.slH F' x C dx vs, ef, ⟨fun a o h => ef a o (B.ff a o h), fun a o h => ?_, fun a o h => ?_, fun a o h => ?_, fun a o h => ?_, fun a o h => ?_, fun a o h => ?_⟩, SlX.slH_slt hne⟩
  · by_cases h1 : a = x
    · right; show (if _ then _ else _) = _; rw [if_pos (.inl h1)]
    · by_cases h2 : a = dx
      · right; show (if _ then _ else _) = _; rw [if_pos (.inr h2)]
      · rw [SlX.slH_ne h1 h2] at h
        rcases B.ft a o h with z | z
        · exact .inl z
        · right; show (if _ then _ else _) = _; rw [if_neg (by simp [h1, h2])]; exact z
  · by_cases h1 : a = x
    · subst h1; rw [e2]; unfold SlX.slH at h ⊢; rw [upd_same] at h ⊢; exact h
    · by_cases h3 : a = dx
      · subst h3; rw [e2]; unfold SlX.slH at h ⊢; rw [upd_ne h1, upd_same] at h ⊢; exact h
      · rw [SlX.slH_ne h1 h3] at h; rw [h2 a h1 h3]; exact B.fh a o h
  · obtain ⟨n1, n2⟩ := ng h
    exact (B.gh a o h).mono ef fun o q => by rw [h2 a n1 n2]; exact q
  · obtain ⟨n1, n2⟩ := ng h
    rw [SlX.slH_ne n1 n2]; exact B.fg a o h
  · show (if _ then _ else _) = _
    split
    · rfl
    · exact B.gt a o h
  · have h' : (if a = x ∨ a = dx then none else Tof G H a) = some o := h
    by_cases h1 : a = x ∨ a = dx
    · rw [if_pos h1] at h'; cases h'
    · rw [if_neg h1] at h'
      rw [h2 a (fun z => h1 (.inl z)) (fun z => h1 (.inr z))]; exact B.tk a o h'
section
variable {P : Program} {w : World} {K : PySem.W.Frag} {mg : Str → Option Value} {base : Heap}
/-- .. two slots, stored from names at the end: the second slot first -/
theorem init2r_ok {x qual : Str} {st : Stmt} {g : Addr} {fd : FuncData} {N ps : List Str} {k : Nat} {C q0 q1 : Addr} {f0 f1 : Str} {f : FSpI} (Fo : Fun K x qual st g fd) (S : FnScope N ps (defScope st)) (c : SlX.SCls K C) (t0 : SlX.Slot1 K C f0 q0 1) (t1 : SlX.Slot1 K C f1 q1 0)
    (len : ∀ ds G post px, f ds G post px → ds.length + 1 = ps.length)
    (pre : List Stmt) (s0 s1 : Stmt) (i0 i1 : Nat) (hb : defBody st = pre ++ [s0, s1])
    (hbody : ∀ (cdv : Value) (A : Around) (outer : List Env) (s : Shared) (H : Hp) (E : XK) (F T : Hp), Room k (A.deeper (envOfC qual (defScope st) s.heap.objs.size g cdv)) → ∀ (px : Exn → GD → Prop),
      PS (cyOf P w K mg base N qual (defScope st) g cdv A outer s H E F T px).toCx s0 (SlX.sSl K (tVar 0) (tVar i0) f0) ∧ PS (cyOf P w K mg base N qual (defScope st) g cdv A outer s H E F T px).toCx s1 (SlX.sSl K (tVar 0) (tVar i1) f1) ∧
      ∀ (a : Addr) (ds : List D) (G : GD) (post : List D → GD → Prop), f ds G post px → (cyOf P w K mg base N qual (defScope st) g cdv A outer s H E F T px).Tk → PassesOwn (model P w) (cyOf P w K mg base N qual (defScope st) g cdv A outer s H E F T px).A (cyOf P w K mg base N qual (defScope st) g cdv A outer s H E F T px).env (cyOf P w K mg base N qual (defScope st) g cdv A outer s H E F T px).xe →
      WB (cyOf P w K mg base N qual (defScope st) g cdv A outer s H E F T px) pre (startD N (.adr a :: ds)) G { nx := fun r G' => r[0]? = some (Sl.sh (.adr a)) ∧ ∃ d0 d1, r[i0]? = some (Sl.sh d0) ∧ r[i1]? = some (Sl.sh d1) ∧ post [d1, d0] G', rt := fun _ _ => False }) :
    FnOk P w K mg base (L2.CX P w) (k + 1) g fd ps (spI K C f) := by
  refine Fo.okX S (fun vs H Q E h => ?_) (fun cdv A outer s H vs Q E hr h => ?_)
  · obtain ⟨a, dx, us, F, G, ds, post, px, rfl, _, _, _, _, _, _, _, _, _, _, rp, hf, _⟩ := h
    rw [List.length_cons, rp.length]; exact len ds G post px hf
  · obtain ⟨a, dx, us, F, G, ds, post, px, rfl, hx, hd, hne, fx, fdx, gx, gdx, e1, e2, e3, rp, hf, hq, hxn⟩ := h
    refine ⟨RunB _ (defBody st), pbR, ?_⟩
    obtain ⟨p0, p1, hW⟩ := hbody cdv A outer s H E F (Tof G H) hr px
    have hl : (D.adr a :: ds).length ≤ N.length := by
      rw [List.length_cons, len ds G post px hf]
      have := congrArg List.length S.pre
      rw [List.length_take] at this
      omega
    rw [hb]
    have S0 := sta_start (N := N) (ds := .adr a :: ds) (vs := .ref a :: us) hl e1 e2 e3 ⟨_, _, rfl, rfl, rp⟩
    have tk : (cyOf P w K mg base N qual (defScope st) g cdv A outer s H E F (Tof G H) px).Tk := (takes_of (E := E) rfl rfl rfl rfl).imp fun cls d σ H' ⟨r, G', F', x, S', ex, q⟩ => hxn x cls d G' H' F' q S'.bas.tin ex
    have go := hW a ds G post hf tk (passes_of rfl) F (Tof G H) F H (L2.start N (.ref a :: us)) ⟨Ex.refl _, Ex.refl _, fun _ _ z => .inl z⟩ S0
    refine runB_then (X := cyOf P w K mg base N qual (defScope st) g cdv A outer s H E F (Tof G H) px) (go.mono (fun σ' H' ⟨r', G', F', S', h0, d0, d1, h1, h2, hy⟩ => ?_) (fun v H' ⟨x, G', F', B, rt, q⟩ => q.elim) (fun _ _ ⟨_, _, _, _, q⟩ => q) (fun _ _ ⟨_, _, _, _, q⟩ => q))
    obtain ⟨va, a1, a2⟩ := S'.sl 0 _ h0
    obtain ⟨v0, b1, b2⟩ := S'.sl i0 _ h1
    obtain ⟨v1, c1, c2⟩ := S'.sl i1 _ h2
    cases (show va = .ref a from a2)
    have tx : H' a = some (.ins C dx []) := S'.bas.tk a _ (by rw [Tof_none gx]; exact hx)
    have hs0 : SlX.Slt H' a C dx [] := .inl ⟨tx, rfl⟩
    have two : SlX.putS 0 v1 (SlX.putS 1 v0 []) = [some v1, some v0] := rfl
    refine RunB.of (pss_cons p0 (pss_cons p1 pss_nil)) ⟨v0, b1, .ref a, a1, a, C, dx, q0, [], 1, rfl, hs0, c, t0, v1, c1, .ref a, a1, a, C, dx, q1, _, 0, rfl, SlX.slH_slt hne, c, t1, ?_⟩
    rw [SlX.slH_twice hne, two]
    obtain ⟨F2, f1, f2, f3⟩ := init_frame (vs := [some v1, some v0]) S'.bas fx fdx gx gdx hx hd hne rfl
    exact hq _ G' _ F2 hy f2 ⟨a, dx, [v1, v0], rfl, f3, v1, [v0], rfl, Rep.mono f1 _ _ c2, .one (Rep.mono f1 _ _ b2)⟩
/-- .. one slot, stored at the end -/
theorem init1_ok {x qual : Str} {st : Stmt} {g : Addr} {fd : FuncData} {N ps : List Str} {k : Nat} {C q0 : Addr} {f0 : Str} {f : FSpI} (Fo : Fun K x qual st g fd) (S : FnScope N ps (defScope st)) (c : SlX.SCls K C) (t0 : SlX.Slot1 K C f0 q0 0)
    (len : ∀ ds G post px, f ds G post px → ds.length + 1 = ps.length)
    (pre : List Stmt) (s0 : Stmt) (e0 : Expr) (hb : defBody st = pre ++ [s0])
    (hbody : ∀ (cdv : Value) (A : Around) (outer : List Env) (s : Shared) (H : Hp) (E : XK) (F T : Hp), Room k (A.deeper (envOfC qual (defScope st) s.heap.objs.size g cdv)) → ∀ (px : Exn → GD → Prop),
      PS (cyOf P w K mg base N qual (defScope st) g cdv A outer s H E F T px).toCx s0 (SlX.sSl K (tVar 0) (Run (cyOf P w K mg base N qual (defScope st) g cdv A outer s H E F T px).toCx e0) f0) ∧
      ∀ (a : Addr) (ds : List D) (G : GD) (post : List D → GD → Prop), f ds G post px → (cyOf P w K mg base N qual (defScope st) g cdv A outer s H E F T px).Tk → PassesOwn (model P w) (cyOf P w K mg base N qual (defScope st) g cdv A outer s H E F T px).A (cyOf P w K mg base N qual (defScope st) g cdv A outer s H E F T px).env (cyOf P w K mg base N qual (defScope st) g cdv A outer s H E F T px).xe →
      WB (cyOf P w K mg base N qual (defScope st) g cdv A outer s H E F T px) pre (startD N (.adr a :: ds)) G { nx := fun r G' => WE (cyOf P w K mg base N qual (defScope st) g cdv A outer s H E F T px) e0 r G' fun y r1 G1 => ∃ d r2, fz r1 y = some (d, r2) ∧ r2[0]? = some (Sl.sh (.adr a)) ∧ post [d] G1, rt := fun _ _ => False }) :
    FnOk P w K mg base (L2.CX P w) (k + 1) g fd ps (spI K C f) := by
  refine Fo.okX S (fun vs H Q E h => ?_) (fun cdv A outer s H vs Q E hr h => ?_)
  · obtain ⟨a, dx, us, F, G, ds, post, px, rfl, _, _, _, _, _, _, _, _, _, _, rp, hf, _⟩ := h
    rw [List.length_cons, rp.length]; exact len ds G post px hf
  · obtain ⟨a, dx, us, F, G, ds, post, px, rfl, hx, hd, hne, fx, fdx, gx, gdx, e1, e2, e3, rp, hf, hq, hxn⟩ := h
    refine ⟨RunB _ (defBody st), pbR, ?_⟩
    obtain ⟨p0, hW⟩ := hbody cdv A outer s H E F (Tof G H) hr px
    have hl : (D.adr a :: ds).length ≤ N.length := by
      rw [List.length_cons, len ds G post px hf]
      have := congrArg List.length S.pre
      rw [List.length_take] at this
      omega
    rw [hb]
    have S0 := sta_start (N := N) (ds := .adr a :: ds) (vs := .ref a :: us) hl e1 e2 e3 ⟨_, _, rfl, rfl, rp⟩
    have tk : (cyOf P w K mg base N qual (defScope st) g cdv A outer s H E F (Tof G H) px).Tk := (takes_of (E := E) rfl rfl rfl rfl).imp fun cls d σ H' ⟨r, G', F', x, S', ex, q⟩ => hxn x cls d G' H' F' q S'.bas.tin ex
    have lk : Lk (cyOf P w K mg base N qual (defScope st) g cdv A outer s H E F (Tof G H) px) F (Tof G H) := ⟨Ex.refl _, Ex.refl _, fun _ _ z => .inl z⟩
    have go := hW a ds G post hf tk (passes_of rfl) F (Tof G H) F H (L2.start N (.ref a :: us)) lk S0
    refine runB_then (X := cyOf P w K mg base N qual (defScope st) g cdv A outer s H E F (Tof G H) px) (go.mono (fun σ' H' ⟨r', G', F', S', hw⟩ => ?_) (fun v H' ⟨x, G', F', B, rt, q⟩ => q.elim) (fun _ _ ⟨_, _, _, _, q⟩ => q) (fun _ _ ⟨_, _, _, _, q⟩ => q))
    refine RunB.of (pss_cons p0 pss_nil) ((hw F (Tof G H) F' H' σ' lk S').mono fun v0 H1 ⟨y, r1, G1, F1, e4, S1, k1, d, r2, q1, q2, q3⟩ => ?_)
    obtain ⟨F3, e5, S3, rp3⟩ := S1.fz k1 q1
    obtain ⟨va, a1, a2⟩ := S3.sl 0 _ q2
    cases (show va = .ref a from a2)
    have tx : H1 a = some (.ins C dx []) := S3.bas.tk a _ (by rw [Tof_none gx]; exact hx)
    have hs0 : SlX.Slt H1 a C dx [] := .inl ⟨tx, rfl⟩
    have one : SlX.putS 0 v0 [] = [some v0] := rfl
    refine ⟨.ref a, a1, a, C, dx, q0, [], 0, rfl, hs0, c, t0, ?_⟩
    rw [one]
    obtain ⟨F2, f1, f2, f3⟩ := init_frame (vs := [some v0]) S3.bas fx fdx gx gdx hx hd hne rfl
    exact hq _ G1 _ F2 q3 f2 ⟨a, dx, [v0], rfl, f3, .one (Rep.mono f1 _ _ rp3)⟩
end
/-- the promise of a class's making by a mirror -/
def FMI (cx : Nat → Addr) {A R : Type} (en : A → List D) (es : R → List D) (f : A → Out R) : FSpI := fun ds G post px => ∃ a : A, ds = en a ∧ (f a).sat (fun v => post (es v) G) (fun m => px (xnOf cx m) G)
theorem kit_same {K : PySem.W.Frag} {t : Value} (h : (t == t) = true) : PySem.W.kitOne K t t = some true := if_pos h
open Out (Rt)
structure ItemD (P : Program) (w : World) (K : PySem.W.Frag) (mg : Str → Option Value) (base : Heap) (C : Addr) (k : Nat) (ps : List Str) (sp : FSp) : Prop where
  ex : ∃ (g : Addr) (fd : FuncData), PySem.W.findIn K (.ref C) "__getitem__" = some (some (.ref g)) ∧ PySem.W.isFn K (.ref g) = true ∧ PySem.W.fnIn K g = true ∧ FnOk P w K mg base (CX P w) k g fd ps (spD K sp) ∧ Binds K fd ps []
def NoSlP (b : Expr) : Prop := ∀ o i, subscripted b true o i = runValue (.builtin "lifetime.subscript" ⟨[o, i], []⟩)
section
variable {X : Cy} {e a b c o tg kx vx elt i : Expr} {es ifs : List Expr} {st : Stmt} {sts rest body orelse : List Stmt} {r : Env2} {G : GD} {pos tpos apos cpos p0 : Pos} {D0 : EndsD} {α β γ σT ρ : Type}
def rIxOwn (C : Addr) (sp : Sp) (E : XK) : R2 := fun x y H Q => ∃ a dx vs, x = .ref a ∧ SlX.Slt H a C dx vs ∧ sp [x, y] H Q E
theorem pe_subOwn {X : Cx} {ta tb : TE} {C g : Addr} {CX : CXT} {n : Nat} {sp : Sp} {E : XK} (ha : PE X a ta) (hb : PE X b tb) (hs : PySem.W.findIn X.K (.ref C) "__getitem__" = some (some (.ref g))) (hf : PySem.W.isFn X.K (.ref g) = true) (hfn : PySem.W.fnIn X.K g = true) (F : FnR X.prog X.w X.K X.mg X.base CX n g sp) (hr : Room (n + 1) X.A) (hx : Passes CX X E) (hsl : NoSlP b) :
    PE X (.Subscript a b pos) (tOp (rIxOwn C sp E) ta tb) := by
  refine ⟨fun pins s σ H Q I h => ?_⟩
  refine Subscript_ (binT ha hb I h fun v u s2 x y H2 I2 rx ry q => ?_)
  obtain ⟨ad, dx, vs, rfl, hsl2, q⟩ := q
  cases (show v = Value.ref ad from rx)
  obtain ⟨sl, od, _, J, _⟩ := SlX.slt_inst I2 hsl2
  obtain ⟨m, hF⟩ := I2.fr
  refine PySem.W.sub_K hF I2.ok.mod.kin J hs hfn hf (wpAny_call (SlX.run_at (us := [.ref ad, u]) (ws := [.ref ad, y]) F hr.in1 I2.env0.in1 hx I2 (.cons rfl (.cons ry .nil)) q)) (hsl _ _)
theorem we_item {C : Addr} {k j : Nat} {ps : List Str} {sp : FSp} {Q : Res → Env2 → GD → Prop} (M : ItemD X.prog X.w X.K X.mg X.base C k ps sp) (hr : Room j X.A)
    (h : WE X a r G fun x r1 G1 => WE X b r1 G1 fun y r2 G2 => ∃ ds d r3, vw r2 x = some (.ins C ds) ∧ fz r2 y = some (d, r3) ∧ sp [.ins C ds, d] G2 (fun z G3 => Q z r3 G3) (fun _ _ => False)) (hj : k + 1 ≤ j := by omega) (hsl : NoSlP b := by intro _ _; rfl) : WE X (.Subscript a b pos) r G Q := fun F0 T F H σ lk S => by
  obtain ⟨g, fd, h1, h2, h3, h4, h5⟩ := M.ex
  refine Run.of (pe_subOwn (E := fun _ _ _ => False) peR peR h1 h2 h3 (fnr h4 h5) (hr.mono hj) passF hsl) ?_
  refine (h F0 T F H σ lk S).mono fun va H1 ⟨x, r1, G1, F1, e1, S1, k1, h1⟩ => ?_
  obtain ⟨F1', e1', S1', hv⟩ := hold S1 k1
  refine (h1 F0 T F1' H1 σ lk S1').mono fun vb H2 ⟨y, r2, G2, F2, e2, S2, k2, ds, d, r3, q1, q2, q3⟩ => ?_
  have vx := hv F2 G2 H2 r2 _ e2 S2 (.inl q1)
  obtain ⟨F3, e3, S3, rp⟩ := S2.fz k2 q2
  have ra := Rep.mono e3 _ _ vx.rep_ins
  obtain ⟨ad, dx, vs, rfl, z1, z2⟩ := vx.ins S2.bas.fh
  exact ⟨ad, dx, vs.map some, rfl, z1, spD_of0 (ds := [.ins C ds, d]) S3 (((e1.trans e1').trans e2).trans e3) ⟨_, _, rfl, ra, .one rp⟩ q3⟩
end
structure Rul where
  error : Int
  marks : List Int
deriving DecidableEq, Inhabited
abbrev eRul (C : Addr) : Rul → D := fun r => .ins C [.int r.error, .tup (r.marks.map D.int)]
structure Rak where
  held : List (S × Rul)
deriving DecidableEq
abbrev eRak (CK CR : Addr) : Rak → D := fun r => .ins CK [eD kZ (eRul CR) r.held]
structure Cl_Ruler (K : PySem.W.Frag) (C : Addr) : Prop where
  cls : SlX.SCls K C
  isi : SlX.SIsi K C
  s0 : ∃ p, SlX.Slot1 K C "own_error" p 0
  s1 : ∃ p, SlX.Slot1 K C "own_marks" p 1
  same : PySem.W.kitOne K (.ref C) (.ref C) = some true
  nf : PySem.W.notFirst K C (.ref C) = true
structure Cl_Rack (K : PySem.W.Frag) (C : Addr) : Prop where
  cls : SlX.SCls K C
  isi : SlX.SIsi K C
  s0 : ∃ p, SlX.Slot1 K C "held" p 0
  same : PySem.W.kitOne K (.ref C) (.ref C) = some true
  nf : PySem.W.notFirst K C (.ref C) = true
open Out (Rt)
section
variable {X : Cy} {e a b c o tg kx vx elt i : Expr} {es ifs : List Expr} {st : Stmt} {sts rest body orelse : List Stmt} {r : Env2} {G : GD} {pos tpos apos cpos p0 : Pos} {D0 : EndsD} {α β γ σT ρ : Type}
theorem keys_rep {K : PySem.W.Frag} {F : Hp} : ∀ (ks : List Key), RepL K F (ks.map kD) (ks.map kV)
  | [] => rfl
  | k :: ks => ⟨kV k, ks.map kV, rfl, kD_rep k, keys_rep ks⟩
theorem t_listD {κ ν : Type} {k : κ → Key} {f : ν → D} (kvs : List (κ × ν)) (hcalm : X.calm = true) {Q : Res → Prop} (q : Q (.fr (.lst ((kvs.map (·.1)).map fun x => kD (k x))))) : CallW1 X (.type "list") (eD k f kvs) Q := fun F0 T F G H r σ v S hv => by
  obtain ⟨p, us, rfl, h1, h2⟩ := hv.dics S.bas.fh
  refine ⟨_, call_listD hcalm, p, us, rfl, h1, fun l hl => ?_⟩
  have ek : us.map (fun kv => kV kv.1) = ((kvs.map fun p => k p.1).map kV) := by
    have := h2.keys
    rw [zip_eDl] at this
    have e := congrArg (List.map kV) this
    rw [List.map_map] at e
    rw [show us.map (fun kv => kV kv.1) = List.map (kV ∘ fun x => x.fst) us from rfl, e]
    unfold eDl; rw [List.map_map, List.map_map, List.map_map]; rfl
  rw [ek]
  refine new_lst S ?_ hl q
  rw [show ((kvs.map (·.1)).map fun x => kD (k x)) = (kvs.map fun p => k p.1).map kD by rw [List.map_map, List.map_map]; rfl]
  exact keys_rep _
/-- sorted texts -/
def leS (a b : S) : Bool := decide (a.1.cps.toList ≤ b.1.cps.toList)
def ssort (xs : List S) : List S := xs.mergeSort leS
theorem t_lenS {x : S} (hl : x.1.length ≤ LIM) {Q : Res → Prop} (q : Q (.sh (.int (x.1.length : Nat)))) : CallW1 X (.builtin "len") (eZ x) Q :=
  c1_flat (d' := .int (x.1.length : Nat)) (v' := .int (x.1.length : Nat)) (fun _ _ => rfl) (fun F H v ex h => by
    have e : v = .str x.1 := by
      rcases h with z | ⟨_, _, z⟩
      · exact z
      · exact z.elim
    subst e
    exact ⟨_, call_len_str, fun P hp => ⟨_, rfl, lim_ok hl, hp⟩⟩) q
/-- the signs of a text -/
abbrev Chr := { c : Nat // c < 0x110000 }
abbrev eC : Chr → D := fun c => .str ⟨#[c.1]⟩
theorem eqc_chr : EqC eC 0 := ⟨fun c => by
    show PyData.strOk ⟨#[c.1]⟩ = true
    unfold PyData.strOk
    simp [c.2], fun a b => by
    show PyData.eqv (.str ⟨#[a.1]⟩) (.str ⟨#[b.1]⟩) = true ↔ a = b
    simp [PyData.eqv, Subtype.ext_iff]⟩
def chrs (x : S) : List Chr := x.1.cps.toList.attach.map fun c => ⟨c.1, by
  have h := x.2
  unfold PyData.strOk at h
  rw [Array.all_eq_true_iff_forall_mem] at h
  exact of_decide_eq_true (h c.1 (Array.mem_toList_iff.mp c.2))⟩
theorem chrs_val (x : S) : (chrs x).map (·.1) = x.1.cps.toList := by
  unfold chrs
  rw [List.map_map]
  exact List.attach_map_subtype_val _
theorem chrs_len (x : S) : (chrs x).length = x.1.cps.size := by
  have := congrArg List.length (chrs_val x)
  rwa [List.length_map, Array.length_toList] at this
theorem ti_str {Q : List D → Env2 → GD → Prop} (h : WE X e r G fun z r1 G1 => ∃ (x : S) (r2 : Env2), fz r1 z = some (eZ x, r2) ∧ Q ((chrs x).map eC) r2 G1) : WI X tg e r G Q := fun F0 T F H σ lk S =>
  RunI.of (pi_str peR) ((h F0 T F H σ lk S).mono fun v H1 ⟨z, r1, G1, F1, e1, S1, k1, x, r2, q1, q2⟩ => by
    obtain ⟨Fa, e2, Sa, rp⟩ := S1.fz k1 q1
    cases (show v = .str x.1 from rp)
    refine ⟨x.1, rfl, _, r2, G1, Fa, e1.trans e2, Sa, fun F H ea eh => ⟨?_, fun i d hi => ?_⟩, q2⟩
    · show x.1.cps.size ≤ ((chrs x).map eC).length
      rw [List.length_map, chrs_len]; exact Nat.le_refl _
    · rw [List.getElem?_map] at hi
      cases hc : (chrs x)[i]? with
      | none => rw [hc] at hi; cases hi
      | some c =>
        rw [hc] at hi; cases hi
        have hv : x.1.cps.toList[i]? = some c.1 := by rw [← chrs_val, List.getElem?_map, hc]; rfl
        rw [Array.getElem?_toList] at hv
        refine ⟨?_, fun y H' ⟨y1, c', y2, y3⟩ => .inl ⟨y1, ?_⟩⟩
        · show i < x.1.cps.size
          obtain ⟨h1, _⟩ := Array.getElem?_eq_some_iff.mp hv
          exact h1
        · rw [hv] at y2; cases y2
          exact y3)
theorem t_ninS {c : Chr} {x : S} {Q : Res → Prop} (q : Q (.sh (.bl (!decide (c ∈ chrs x))))) : OpW X (compareOp .NotIn) (eC c) (eZ x) Q := by
  have e : decide (c ∈ chrs x) = decide (c.1 ∈ x.1.cps.toList) := by
    rw [← chrs_val]
    congr 1
    simp only [List.mem_map, eq_iff_iff]
    exact ⟨fun h => ⟨c, h, rfl⟩, fun ⟨c', h, hc⟩ => by cases Subtype.ext hc; exact h⟩
  rw [e] at q
  refine opw_flat (d := .bl (!decide (c.1 ∈ x.1.cps.toList))) (v := .bl (!decide (c.1 ∈ x.1.cps.toList))) (fun _ _ => rfl) (fun F H va vb ex h1 h3 => ?_) q
  have e1 : va = .str ⟨#[c.1]⟩ := by
    rcases h1 with z | ⟨_, _, z⟩
    · exact z
    · exact z.elim
  have e2 : vb = .str x.1 := by
    rcases h3 with z | ⟨_, _, z⟩
    · exact z
    · exact z.elim
  subst e1 e2
  exact ⟨_, op_notIn_sign, fun P p => ⟨c.1, x.1, rfl, rfl, p⟩⟩
end
namespace RBS
open PySem PyProof.Rows SrtO Srt
theorem ltL_tri (a b : List Nat) (h1 : ¬ a < b) (h2 : ¬ b < a) : a = b := List.le_antisymm (List.not_lt.mp h2) (List.not_lt.mp h1)
theorem str_ext {x y : Str} (h : x.cps.toList = y.cps.toList) : x = y := by
  cases x; cases y
  congr
  exact Array.ext' h
def IsPairS (h : Heap) (v : Value) (x : Str) (y : Int) : Prop := ∃ a o t u n, v = .ref a ∧ h.get? a = some o ∧ o.cls = .type "tuple" ∧ o.data = .seq #[.str x t, .int y u] n
theorem IsPairS.keeps {h h' : Heap} {v : Value} {x : Str} {y : Int} (p : IsPairS h v x y) (k : ∀ b o, h.get? b = some o → o.cls = .type "tuple" → h'.get? b = some o) : IsPairS h' v x y := by
  obtain ⟨a, o, t, u, n, e, ho, hc, hd⟩ := p
  exact ⟨a, o, t, u, n, e, k _ _ ho hc, hc, hd⟩
end RBS
open Out (Rt)
open Out (Rt)
section
variable {X : Cy} {e a b c o tg kx vx elt i : Expr} {es ifs : List Expr} {st : Stmt} {sts rest body orelse : List Stmt} {r : Env2} {G : GD} {pos tpos apos cpos p0 : Pos} {D0 : EndsD} {α β γ σT ρ : Type}
def rDEq0 : R2 := fun x y H Q => ∃ a b ks, x = .ref a ∧ y = .ref b ∧ Rd H a (.dK ks) ∧ Rd H b (.dK []) ∧ Q (.bl ks.isEmpty) H
theorem op_deq0 {X : Cx} (hu : X.A.units < cLine) : OpR X (compareOp .Eq) rDEq0 := by
  intro pins s σ H x y v u Q I rx ry h
  obtain ⟨a, b, ks, rfl, rfl, ea, eb, q⟩ := h
  obtain rfl : v = Value.ref a := rx
  obtain rfl : u = Value.ref b := ry
  obtain ⟨za, ya, va, ra, da⟩ := dk_rd I.hok ea
  obtain ⟨zb, yb, vb, rb, db⟩ := dk_rd I.hok eb
  have hb : vb = [] := by have := rb.length; cases vb with | nil => rfl | cons => simp at this
  subst hb
  have hl := ra.length
  refine PySem.W.keq_eq (knd := mixKind X.prog X.w) (r := true) ya yb da db hu (fun e => ?_) (fin_bl I q ?_)
  · have : va = [] := List.length_eq_zero_iff.mp e
    subst this
    exact .nil
  · cases ks with
    | nil => have : va = [] := List.length_eq_zero_iff.mp hl.symm; subst this; rfl
    | cons p ks => cases va with
      | nil => simp at hl
      | cons => rfl
theorem t_deq0 {κ ν : Type} {k : κ → Key} {f : ν → D} (hu : X.A.units + 64 < cLine) (kvs : List (κ × ν)) {Q : Res → Prop} (q : Q (.sh (.bl kvs.isEmpty))) : OpW X (compareOp .Eq) (eD k f kvs) (.dic [] []) Q := by
  refine opw_flat (d := .bl kvs.isEmpty) (v := .bl kvs.isEmpty) (fun _ _ => rfl) (fun F H va vb ex h1 h3 => ?_) q
  obtain ⟨p, us, rfl, k1, k2⟩ := h1.dics ex
  obtain ⟨p2, us2, rfl, k3, k4⟩ := h3.dics ex
  cases (show us2 = [] from k4)
  refine ⟨_, op_deq0 (by omega), fun P hp => ⟨p, p2, us, rfl, rfl, k1, k3, ?_⟩⟩
  have : us.isEmpty = kvs.isEmpty := by
    have := k2.length
    rw [zip_eDl] at this
    unfold eDl at this
    rw [List.length_map] at this
    cases us with
    | nil => cases kvs with
      | nil => rfl
      | cons => simp at this
    | cons => cases kvs with
      | nil => simp at this
      | cons => rfl
  rw [this]; exact hp
theorem rising_chain : ∀ (ys : List Str) (p : Str), risingS p ys = true → (p :: ys).Pairwise fun a b => ¬ b.cps.toList < a.cps.toList
  | [], p, _ => by simp
  | y :: ys, p, h => by
    unfold risingS at h
    rw [Bool.and_eq_true] at h
    have ih := rising_chain ys y h.2
    have h1 : ¬ y.cps.toList < p.cps.toList := by
      intro z
      have : ltCps y.cps.toList p.cps.toList = true := by
        rw [ltCps_eq]; exact decide_eq_true z
      rw [this] at h; simp at h
    refine List.pairwise_cons.mpr ⟨fun b hb => ?_, ih⟩
    rcases List.mem_cons.mp hb with e | e
    · subst e; exact h1
    · intro z
      have h2 := (List.pairwise_cons.mp ih).1 b e
      exact h2 (by
        by_cases h3 : b.cps.toList < y.cps.toList
        · exact h3
        · by_cases h4 : y.cps.toList < b.cps.toList
          · exact absurd (List.lt_trans h4 z) h1
          · rw [RBS.ltL_tri _ _ h3 h4] at z; exact absurd z h1)
theorem sortedS_chain : ∀ (ys : List Str), sortedS ys = true → ys.Pairwise fun a b => ¬ b.cps.toList < a.cps.toList
  | [], _ => List.Pairwise.nil
  | y :: ys, h => rising_chain ys y h
theorem leS_trans (a b c : S) (h1 : leS a b = true) (h2 : leS b c = true) : leS a c = true := by
  unfold leS at *
  rw [decide_eq_true_eq] at *
  exact List.le_trans h1 h2
theorem leS_total (a b : S) : (leS a b || leS b a) = true := by
  unfold leS
  rw [Bool.or_eq_true, decide_eq_true_eq, decide_eq_true_eq]
  exact List.le_total _ _
theorem ssort_perm (xs : List S) : (ssort xs).Perm xs := List.mergeSort_perm _ _
theorem ssort_sorted (xs : List S) : (ssort xs).Pairwise fun a b => leS a b = true := List.pairwise_mergeSort leS_trans leS_total xs
theorem strs_rep {K : PySem.W.Frag} {F : Hp} : ∀ (xs : List S), RepL K F (xs.map eZ) ((xs.map (·.1)).map V.str)
  | [] => rfl
  | x :: xs => ⟨_, _, rfl, rfl, strs_rep xs⟩
/-- sorted(d), the keys texts -/
theorem t_sortedDS {ν : Type} {f : ν → D} (kvs : List (S × ν)) (hcalm : X.calm = true) (h64 : kvs.length < 64) {Q : Res → Prop} (q : Q (.fr (.lst ((ssort (kvs.map (·.1))).map eZ)))) : CallW1 X (.builtin "sorted") (eD kZ f kvs) Q := fun F0 T F G H r σ v S hv => by
  obtain ⟨p, us, rfl, h1, h2⟩ := hv.dics S.bas.fh
  refine ⟨_, call_sortedD hcalm, p, us, (kvs.map (·.1)).map (·.1), rfl, h1, ?_, by rw [List.length_map, List.length_map]; exact h64, fun ys l hp hs hl => ?_⟩
  · have := h2.keys
    rw [zip_eDl] at this
    rw [this]
    unfold eDl
    rw [List.map_map, List.map_map, List.map_map]; rfl
  · have e : ys = (ssort (kvs.map (·.1))).map (·.1) := by
      refine List.Perm.eq_of_pairwise (le := fun a b : Str => ¬ b.cps.toList < a.cps.toList) (fun a b _ _ h h' => RBS.str_ext (RBS.ltL_tri _ _ h' h)) (sortedS_chain ys hs) ?_ (hp.trans ((ssort_perm _).map _).symm)
      exact List.pairwise_map.mpr ((ssort_sorted _).imp fun {a b} h => by
        unfold leS at h
        rw [decide_eq_true_eq] at h
        exact List.not_lt.mpr h)
    subst e
    exact new_lst S (strs_rep _) hl q
end
theorem kt_NoneType_str {K : PySem.W.Frag} : PySem.W.kitOne K (.type "NoneType") (.type "str") = some false := kit_ty (by decide +kernel)
theorem kt_NoneType_tuple {K : PySem.W.Frag} : PySem.W.kitOne K (.type "NoneType") (.type "tuple") = some false := kit_ty (by decide +kernel)
theorem kt_NoneType_list {K : PySem.W.Frag} : PySem.W.kitOne K (.type "NoneType") (.type "list") = some false := kit_ty (by decide +kernel)
theorem kt_NoneType_dict {K : PySem.W.Frag} : PySem.W.kitOne K (.type "NoneType") (.type "dict") = some false := kit_ty (by decide +kernel)
theorem kt_bool_bool {K : PySem.W.Frag} : PySem.W.kitOne K (.type "bool") (.type "bool") = some true := kit_ty (by decide +kernel)
theorem kt_bool_int {K : PySem.W.Frag} : PySem.W.kitOne K (.type "bool") (.type "int") = some true := kit_ty (by decide +kernel)
theorem kt_bool_str {K : PySem.W.Frag} : PySem.W.kitOne K (.type "bool") (.type "str") = some false := kit_ty (by decide +kernel)
theorem kt_bool_tuple {K : PySem.W.Frag} : PySem.W.kitOne K (.type "bool") (.type "tuple") = some false := kit_ty (by decide +kernel)
theorem kt_bool_list {K : PySem.W.Frag} : PySem.W.kitOne K (.type "bool") (.type "list") = some false := kit_ty (by decide +kernel)
theorem kt_bool_dict {K : PySem.W.Frag} : PySem.W.kitOne K (.type "bool") (.type "dict") = some false := kit_ty (by decide +kernel)
theorem kt_int_bool {K : PySem.W.Frag} : PySem.W.kitOne K (.type "int") (.type "bool") = some false := kit_ty (by decide +kernel)
theorem kt_int_int {K : PySem.W.Frag} : PySem.W.kitOne K (.type "int") (.type "int") = some true := kit_ty (by decide +kernel)
theorem kt_int_str {K : PySem.W.Frag} : PySem.W.kitOne K (.type "int") (.type "str") = some false := kit_ty (by decide +kernel)
theorem kt_int_tuple {K : PySem.W.Frag} : PySem.W.kitOne K (.type "int") (.type "tuple") = some false := kit_ty (by decide +kernel)
theorem kt_int_list {K : PySem.W.Frag} : PySem.W.kitOne K (.type "int") (.type "list") = some false := kit_ty (by decide +kernel)
theorem kt_int_dict {K : PySem.W.Frag} : PySem.W.kitOne K (.type "int") (.type "dict") = some false := kit_ty (by decide +kernel)
theorem kt_str_str {K : PySem.W.Frag} : PySem.W.kitOne K (.type "str") (.type "str") = some true := kit_ty (by decide +kernel)
theorem kt_str_tuple {K : PySem.W.Frag} : PySem.W.kitOne K (.type "str") (.type "tuple") = some false := kit_ty (by decide +kernel)
theorem kt_str_list {K : PySem.W.Frag} : PySem.W.kitOne K (.type "str") (.type "list") = some false := kit_ty (by decide +kernel)
theorem kt_str_dict {K : PySem.W.Frag} : PySem.W.kitOne K (.type "str") (.type "dict") = some false := kit_ty (by decide +kernel)
theorem kt_tuple_tuple {K : PySem.W.Frag} : PySem.W.kitOne K (.type "tuple") (.type "tuple") = some true := kit_ty (by decide +kernel)
theorem kt_tuple_list {K : PySem.W.Frag} : PySem.W.kitOne K (.type "tuple") (.type "list") = some false := kit_ty (by decide +kernel)
theorem kt_tuple_dict {K : PySem.W.Frag} : PySem.W.kitOne K (.type "tuple") (.type "dict") = some false := kit_ty (by decide +kernel)
theorem kt_list_tuple {K : PySem.W.Frag} : PySem.W.kitOne K (.type "list") (.type "tuple") = some false := kit_ty (by decide +kernel)
theorem kt_list_list {K : PySem.W.Frag} : PySem.W.kitOne K (.type "list") (.type "list") = some true := kit_ty (by decide +kernel)
theorem kt_list_dict {K : PySem.W.Frag} : PySem.W.kitOne K (.type "list") (.type "dict") = some false := kit_ty (by decide +kernel)
/-- the value of an assignment -/
def asgV : Stmt → Expr
  | .Assign _ v _ => v
  | _ => .Constant .none 0 ⟨0, 0, 0, 0⟩
open Out (Rt)
section
variable {X : Cy} {e a b c o tg kx vx elt i : Expr} {es ifs : List Expr} {st : Stmt} {sts rest body orelse : List Stmt} {r : Env2} {G : GD} {pos tpos apos cpos p0 : Pos} {D0 : EndsD} {α β γ σT ρ : Type}
theorem we_ifN (en : α → D) {Q : Res → Env2 → GD → Prop}
    (h : WT X c r G fun d r1 G1 => ∃ (β : Type) (ma mb : Out α) (f : α → Out β) (Q0 : β → Prop) (E : Xm → Prop), ((if d = true then ma else mb).bind f).sat Q0 E ∧ (d = true → ∀ Q' : α → Prop, ma.sat Q' E → WE X a r1 G1 fun x r2 G2 => ∃ v, x = .sh (en v) ∧ r2 = r1 ∧ G2 = G1 ∧ Q' v) ∧
      (d = false → ∀ Q' : α → Prop, mb.sat Q' E → WE X b r1 G1 fun x r2 G2 => ∃ v, x = .sh (en v) ∧ r2 = r1 ∧ G2 = G1 ∧ Q' v) ∧ ∀ v, (f v).sat Q0 E → Q (.sh (en v)) r1 G1) : WE X (.IfExp c a b pos) r G Q :=
  we_ifExp (h.mono fun d r1 G1 ⟨β, ma, mb, f, Q0, E, h0, h1, h2, q⟩ => ⟨fun hd => by
    rw [if_pos hd] at h0
    exact (h1 hd _ (Out.sb h0)).mono fun x r2 G2 ⟨v, m1, m2, m3, m4⟩ => by subst m1 m2 m3; exact q v m4, fun hd => by
    rw [if_neg (by rw [hd]; exact Bool.false_ne_true)] at h0
    exact (h2 hd _ (Out.sb h0)).mono fun x r2 G2 ⟨v, m1, m2, m3, m4⟩ => by subst m1 m2 m3; exact q v m4⟩)
theorem we_andN {Q : Res → Env2 → GD → Prop} (h : WE X a r G fun x r1 G1 => ∃ (β : Type) (c1 : Bool) (m : Out Bool) (f : Bool → Out β) (Q0 : β → Prop) (E : Xm → Prop), x = .sh (.bl c1) ∧ ((if c1 = true then m else .ok false).bind f).sat Q0 E ∧ (c1 = true → ∀ Q' : Bool → Prop, m.sat Q' E → WE X (.BoolOp .And (b :: es) pos) r1 G1 fun y r2 G2 => ∃ c2, y = .sh (.bl c2) ∧ r2 = r1 ∧ G2 = G1 ∧ Q' c2) ∧ ∀ v, (f v).sat Q0 E → Q (.sh (.bl v)) r1 G1) : WE X (.BoolOp .And (a :: b :: es) pos) r G Q :=
  we_and (h.mono fun x r1 G1 ⟨β, c1, m, f, Q0, E, hx, h0, h1, q⟩ => ⟨c1, hx, fun hc => by
    rw [if_pos hc] at h0
    exact (h1 hc _ (Out.sb h0)).mono fun y r2 G2 ⟨c2, m1, m2, m3, m4⟩ => by subst m1 m2 m3; exact q c2 m4, fun hc => by
    rw [if_neg (by rw [hc]; exact Bool.false_ne_true)] at h0
    exact q false h0⟩)
theorem ww_orN {Q : Bool → Env2 → GD → Prop} (h : WT X a r G fun c1 r1 G1 => ∃ (β : Type) (m : Out Bool) (f : Bool → Out β) (Q0 : β → Prop) (E : Xm → Prop), ((if c1 = true then .ok true else m).bind f).sat Q0 E ∧ (c1 = false → ∀ Q' : Bool → Prop, m.sat Q' E → WW X (.BoolOp .Or (b :: es) pos) r1 G1 fun d r2 G2 => r2 = r1 ∧ G2 = G1 ∧ Q' d) ∧ ∀ v, (f v).sat Q0 E → Q v r1 G1) : WW X (.BoolOp .Or (a :: b :: es) pos) r G Q :=
  ww_or (h.mono fun c1 r1 G1 ⟨β, m, f, Q0, E, h0, h1, q⟩ => ⟨fun hc => by
    rw [if_neg (by rw [hc]; exact Bool.false_ne_true)] at h0
    exact (h1 hc _ (Out.sb h0)).monoT fun d r2 G2 ⟨m2, m3, m4⟩ => by subst m2 m3; exact q d m4, fun hc => by
    rw [if_pos hc] at h0
    exact q true h0⟩)
/-- {k: v for tg in e}, by a mirror with a state -/
theorem we_dcS {κ ν : Type} [DecidableEq κ] {scope : Scope} (own : List (Str × Nat)) (R : Env2) (gg : σT → GD) {en : α → D} (ek : κ → Key) (ev : ν → D) (hk : KInj ek) {Q : Res → Env2 → GD → Prop} (hc : X.calm = true) (hN : X.N.Nodup) (ok : BlkOk X.N X.env.scope scope own)
    (h : WI X tg e r G fun ds r2 G1 => ∃ (γ : Type) (xs : List α) (s0 : σT) (f : σT → α → Out (Option (κ × ν) × σT)) (kk : List (κ × ν) × σT → Out γ) (Q0 : γ → Prop) (E : Xm → Prop), ds = xs.map en ∧ xs.length ≤ LIM ∧ Wk (wipeD r2 (own.map (·.2))) R ∧ G1 = gg s0 ∧ ((Out.compS f xs [] s0).bind kk).sat Q0 E ∧
      (∀ s x (Q' : Option (κ × ν) × σT → Prop), (f s x).sat Q' E → Blk X scope fun Y => WG Y tg (en x) R (gg s) (own.map (·.2)) fun r3 G3 => match ifs with
        | [] => Blk X scope fun Y => WE Y kx r3 G3 fun z r4 G4 => ∃ k, z = .sh (kD (ek k)) ∧ Blk X scope fun Y => WE Y vx r4 G4 fun z r5 G5 => ∃ y s' r6, fz r5 z = some (ev y, r6) ∧ Wk (wipeD r6 (own.map (·.2))) R ∧ G5 = gg s' ∧ Q' (some (k, y), s')
        | [c] => Blk X scope fun Y => WT Y c r3 G3 fun b r4 G4 => (b = true → Blk X scope fun Y => WE Y kx r4 G4 fun z r5 G5 => ∃ k, z = .sh (kD (ek k)) ∧ Blk X scope fun Y => WE Y vx r5 G5 fun z r6 G6 => ∃ y s' r7, fz r6 z = some (ev y, r7) ∧ Wk (wipeD r7 (own.map (·.2))) R ∧ G6 = gg s' ∧ Q' (some (k, y), s')) ∧ (b = false → ∃ s', Wk (wipeD r4 (own.map (·.2))) R ∧ G4 = gg s' ∧ Q' (none, s'))
        | _ => False) ∧ ∀ p : List (κ × ν) × σT, (kk p).sat Q0 E → Q (.fr (eD ek ev (dmk p.1))) R (gg p.2))
    (hs : ∀ x, foldedSetIterable e X.env x = pure x := by intro _; rfl) : WE X (.DictComp kx vx [⟨tg, e, ifs, 0⟩] scope pos) r G Q :=
  WE.wkp (we_dc own hc hN ok (h.mono fun ds r2 G1 ⟨γ, xs, s0, f, kk, Q0, E, hd, hl, w, hg, h0, hb, hq⟩ => by
    subst hd hg
    refine ⟨fun k acc r3 G3 => ∃ ys s, Wk r3 R ∧ G3 = gg s ∧ acc = eDl ek ev (dmk ys) ∧ ys.length ≤ k ∧ ((Out.compS f (xs.drop k) ys s).bind kk).sat Q0 E, ⟨[], s0, w, rfl, rfl, Nat.le_refl _, h0⟩, fun k d acc r3 G3 hd ⟨ys, s, w3, hG, ha, hly, hq3⟩ => ?_, fun acc r3 G3 ⟨ys, s, w3, hG, ha, hly, hq3⟩ => ?_⟩
    · subst hG ha
      obtain ⟨x, hx, rfl⟩ := map_at hd
      have hlt : k < xs.length := (List.getElem?_eq_some_iff.mp hx).1
      rw [drop_at hx] at hq3
      have st := hb s x _ (compS_step hq3)
      have lim : (eDl ek ev (dmk ys)).length < LIM := by
        unfold eDl
        rw [List.length_map]
        have := dmk_len ys
        omega
      have snoc : ∀ (k : κ) (y : ν), putD (eDl ek ev (dmk ys)) (ek k) (ev y) = eDl ek ev (dmk (ys ++ [(k, y)])) := fun k y => by rw [putD_eDl hk, dmk_snoc]
      intro Y hY
      refine WG.mono (WG.weak w3 (st Y hY)) fun r4 G4 q' => ?_
      match ifs, q' with
      | [], q' =>
        refine fun Y hY => (q' Y hY).mono fun zz r5 G5 ⟨key, hz, q2⟩ => ⟨ek key, hz, fun Y hY => (q2 Y hY).mono fun zz r6 G6 ⟨y, s', r7, m1, m2, m3, m4⟩ => ⟨ev y, r7, m1, lim, ys ++ [(key, y)], s', m2, m3, snoc key y, by rw [List.length_append]; exact Nat.succ_le_succ hly, m4⟩⟩
      | [c], q' =>
        refine fun Y hY => (q' Y hY).mono fun b r5 G5 ⟨q1, q2⟩ => ⟨fun hb1 Y hY => ?_, fun hb0 => ?_⟩
        · exact (q1 hb1 Y hY).mono fun zz r6 G6 ⟨key, hz, q3⟩ => ⟨ek key, hz, fun Y hY => (q3 Y hY).mono fun zz r7 G7 ⟨y, s', r8, m1, m2, m3, m4⟩ => ⟨ev y, r8, m1, lim, ys ++ [(key, y)], s', m2, m3, snoc key y, by rw [List.length_append]; exact Nat.succ_le_succ hly, m4⟩⟩
        · obtain ⟨s', m2, m3, m4⟩ := q2 hb0
          exact ⟨ys, s', m2, m3, rfl, Nat.le_succ_of_le hly, m4⟩
      | _ :: _ :: _, q' => exact q'.elim
    · subst hG ha
      rw [List.length_map, List.drop_length] at hq3
      rw [eD_dicD]
      exact ⟨R, w3, (fun i z => by cases z), hq (ys, s) hq3⟩) hs)
end
open Out (Rt)
section
variable {prog : Program} {w : World} {A : Around} {E : Value → Shared → Prop} {s : Shared}
theorem nextOf_key_item {it d : Addr} {i n ep : Nat} {od : Obj} {es : Array DictEntry} {en : DictEntry} {Q : Value → Shared → Prop} (hit : s.heap.IsKeyIter it d i n ep) (hod : s.heap.get? d = some od) (hdd : od.data = .dict es ep)
    (hsz : es.size = n) (hx : es[i]? = some en) (hQ : ∀ h', h'.IsKeyIter it d (i + 1) n ep → Heap.SameBut it s.heap h' → Q en.key { s with heap := h' }) : wpAny (model prog w) A (Builtin.SmallTypes.nextOf (.ref it)) Q E s := by
  obtain ⟨o, ho, hc, hd⟩ := id hit
  unfold Builtin.SmallTypes.nextOf
  refine wpAny_bind (wpAny_callSpecial?_slot (name := Str.ofString "__next__") hit.typeIs F.slot_dict_keyiterator_next
    (wpAny_call_entry F.slot_dict_keyiterator_next hit.typeIs F.entry_dict_keyiterator_next ?_ (F.args_dict_keyiterator_next_1 _)))
  refine wpAny_bind (wpAny_pure ?_)
  refine wpAny_bind ?_
  refine wpAny_bind ?_
  first | refine wpAny_bind (wpAny_typeNameOfWhole_keyiter hit.typeIs (wpAny_pure ?_)) | refine wpAny_bind (wpAny_typeNameOf_keyiter hit.typeIs (wpAny_pure ?_))
  refine wpAny_bind (wpAny_fieldsOf ho hd ?_)
  have hown : Builtin.Dict_items.ownsTuple "dict_keyiterator" = false := by decide
  simp only [hown, Bool.false_eq_true, if_false]
  show wpAny _ _ (if (Value.ref d == Value.none) = true then _ else _) _ _ s
  rw [if_neg (show ¬ ((Value.ref d == Value.none) = true) from Bool.false_ne_true)]
  refine wpAny_bind (wpAny_pure ?_)
  refine wpAny_bind (wpAny_dictEntries hod hdd ?_)
  rw [if_neg (by rw [hsz]; simp)]
  refine wpAny_bind (wpAny_pure ?_)
  refine wpAny_bind (wpAny_dictEpoch hod hdd ?_)
  rw [if_neg (by simp)]
  refine wpAny_pure ?_
  obtain ⟨hlt', hen⟩ := Array.getElem?_eq_some_iff.mp hx
  simp only [show ¬ ((i : Int) < 0) from by omega, if_false, Int.toNat_natCast, Array.getElem?_eq_getElem hlt']
  refine wpAny_bind ?_
  first | refine wpAny_bind (wpAny_typeNameOfWhole_keyiter hit.typeIs (wpAny_pure ?_)) | refine wpAny_bind (wpAny_typeNameOf_keyiter hit.typeIs (wpAny_pure ?_))
  refine wpAny_bind (wpAny_isOneOf_keyiter hit.typeIs ?_)
  show wpAny _ _ (setField (.ref it) 1 (rawInt ((i : Int) + 1)) >>= _) _ _ s
  refine wpAny_bind (wpAny_setField ho hd (by simp) ?_)
  have hit' : (s.heap.update it (Obj.mapFields (·.setIfInBounds 1 (rawInt ((i : Int) + 1))))).IsKeyIter it d (i + 1) n ep :=
    ⟨_, Heap.get?_update_self _ ho (Obj.isFreed_of_fields (Obj.data_mapFields hd _)), (Obj.cls_mapFields ..).trans hc, by rw [Obj.data_mapFields hd]; simp [rawInt]⟩
  refine wpAny_bind (wpAny_holding ?_)
  refine wpAny_bind (wpAny_isOneOf_keyiter (s := { s with heap := s.heap.update it (Obj.mapFields (·.setIfInBounds 1 (rawInt ((i : Int) + 1)))) }) hit'.typeIs ?_)
  show wpAny _ _ (pure es[i].key) _ _ _
  rw [hen]
  exact wpAny_pure (wpAny_pure ⟨_, rfl, wpAny_pure (hQ _ hit' (Heap.SameBut.update ..))⟩)
theorem nextOf_key_end {it d : Addr} {i n ep : Nat} {od : Obj} {es : Array DictEntry} {Q : Value → Shared → Prop} (hh : A.handled = none) (hit : s.heap.IsKeyIter it d i n ep) (hod : s.heap.get? d = some od) (hdd : od.data = .dict es ep)
    (hsz : es.size = n) (hge : n ≤ i) (hE : ∀ h' e, Heap.ExtBut it s.heap h' → (∃ o, h'.get? e = some o ∧ o.cls = .type "StopIteration") → E (.ref e) { s with heap := h' }) : wpAny (model prog w) A (Builtin.SmallTypes.nextOf (.ref it)) Q E s := by
  obtain ⟨o, ho, hc, hd⟩ := id hit
  unfold Builtin.SmallTypes.nextOf
  refine wpAny_bind (wpAny_callSpecial?_slot (name := Str.ofString "__next__") hit.typeIs F.slot_dict_keyiterator_next
    (wpAny_call_entry F.slot_dict_keyiterator_next hit.typeIs F.entry_dict_keyiterator_next ?_ (F.args_dict_keyiterator_next_1 _)))
  refine wpAny_bind (wpAny_pure ?_)
  refine wpAny_bind ?_
  refine wpAny_bind ?_
  first | refine wpAny_bind (wpAny_typeNameOfWhole_keyiter hit.typeIs (wpAny_pure ?_)) | refine wpAny_bind (wpAny_typeNameOf_keyiter hit.typeIs (wpAny_pure ?_))
  refine wpAny_bind (wpAny_fieldsOf ho hd ?_)
  have hown : Builtin.Dict_items.ownsTuple "dict_keyiterator" = false := by decide
  simp only [hown, Bool.false_eq_true, if_false]
  show wpAny _ _ (if (Value.ref d == Value.none) = true then _ else _) _ _ s
  rw [if_neg (show ¬ ((Value.ref d == Value.none) = true) from Bool.false_ne_true)]
  refine wpAny_bind (wpAny_pure ?_)
  refine wpAny_bind (wpAny_dictEntries hod hdd ?_)
  rw [if_neg (by rw [hsz]; simp)]
  refine wpAny_bind (wpAny_pure ?_)
  refine wpAny_bind (wpAny_dictEpoch hod hdd ?_)
  rw [if_neg (by simp)]
  refine wpAny_pure ?_
  have hge' : es.size ≤ i := by rw [hsz]; exact hge
  simp only [show ¬ ((i : Int) < 0) from by omega, if_false, Int.toNat_natCast, Array.getElem?_eq_none hge']
  refine wpAny_bind ?_
  first | refine wpAny_bind (wpAny_typeNameOfWhole_keyiter hit.typeIs (wpAny_pure ?_)) | refine wpAny_bind (wpAny_typeNameOf_keyiter hit.typeIs (wpAny_pure ?_))
  show wpAny _ _ (setField (.ref it) 0 .none >>= _) _ _ s
  refine wpAny_bind (wpAny_setField ho hd (by simp) ?_)
  show wpAny _ _ (newExc (.type "StopIteration") [] >>= _) _ _ _
  refine wpAny_bind ?_
  simp only [newExc, newTuple]
  refine wpAny_bind (wpAny_newObj_type ?_ (by size_fits))
  refine wpAny_bind (m := firstArgMember _ _) (wpAny_of_eq (a := Value.none) (by first | rfl | (simp only [firstArgMember]; rfl)) ?_)
  refine wpAny_newObj_type ?_ (by size_fits)
  simp only [raiseNew]
  refine wpAny_bind (wpAny_handled ?_)
  rw [show A.in1.handled = none from hh]
  refine wpAny_bind (wpAny_pure (wpAny_throw ?_))
  exact hE _ _ (((Heap.SameBut.update ..).extBut.push _).push _) ⟨_, Heap.get?_push_size _ rfl, rfl⟩
theorem drawsK (hh : A.handled = none) (it d : Addr) (hne : d ≠ it) (od : Obj) (es : Array DictEntry) (ep : Nat) (hdd : od.data = .dict es ep) :
    Draws prog w A it [it, d] es.size (fun i v => ∃ en, es[i]? = some en ∧ v = en.key) (fun i h => h.IsKeyIter it d i es.size ep ∧ h.get? d = some od) where
  live := fun _ _ st => let ⟨o, ho, _⟩ := st.1; ⟨o, ho⟩
  frame := fun _ _ _ st hk => ⟨st.1.at fun o e => hk it (by simp) o e, hk d (by simp) od st.2⟩
  item := fun i s Q E hi st hQ => by
    refine nextOf_key_item st.1 st.2 hdd rfl (en := es[i]) (by simp [hi]) fun h' hit' hs' => ?_
    exact hQ _ h' s.toks ⟨_, by simp [hi], rfl⟩ ⟨hit', (hs'.2 d hne).trans st.2⟩ hs'
  done := fun s Q E st hE => nextOf_key_end hh st.1 st.2 hdd rfl (Nat.le_refl _) hE
abbrev kIt (d : Addr) (n ep : Nat) : Obj := { cls := .type "dict_keyiterator", data := .fields #[.ref d, .int 0 0, .int n 0, .int ep 0] }
theorem meets_enumK (d : Addr) (o : Obj) (es : Array DictEntry) (ep : Nat) (hd : (d == sysModules) = false) (hc : o.ExactDict) (hdat : o.data = .dict es ep) :
    Meets (Builtin.«enumerate.__new__» ⟨[.type "enumerate", .ref d], []⟩) (fun _ R s => s.heap.get? d = some o ∧
      R (.ok (.ret (.ref (s.heap.push (kIt d es.size ep)).objs.size))) { s with heap := (s.heap.push (kIt d es.size ep)).push (enO s.heap.objs.size) }) :=
  .of_wp fun prog w A R s h => by
    obtain ⟨c, dc, dt, sl⟩ := o
    obtain ⟨h1, h2⟩ := id hc
    cases h1
    obtain ⟨hp, g, dg, tk, os⟩ := s; obtain ⟨hl, h⟩ := h
    have sub := sub_enumerate
    wp_walk using AutoSeq1.wpAny_loadPart' hl
    refine wpAny_stack_any fun st => wpAny_pure ?_
    split
    · rename_i c _ _ _ _ _
      cases (c == Value.type "enumerate")
      all_goals
        wp_walk using AutoSeq1.wpAny_loadPart' hl, iter_keys hd hl hc hdat
        exact ⟨_, rfl, h⟩
    · wp_walk using AutoSeq1.wpAny_loadPart' hl, iter_keys hd hl hc hdat
      exact ⟨_, rfl, h⟩
theorem callEnumK {d : Addr} {o : Obj} {es : Array DictEntry} {ep : Nat} {Q : Value → Shared → Prop} (hd : (d == sysModules) = false) (ho : s.heap.get? d = some o) (hc : o.ExactDict) (hdat : o.data = .dict es ep)
    (h : ∀ h', IsEnum h' (s.heap.objs.size + 1) s.heap.objs.size 0 .none → h'.IsKeyIter s.heap.objs.size d 0 es.size ep → (∀ b o, s.heap.get? b = some o → h'.get? b = some o) → Q (.ref (s.heap.objs.size + 1)) { s with heap := h' }) :
    wpAny (model prog w) A (call (.type "enumerate") [.ref d]) Q E s := by
  refine callType_new F.called_enumerate (by decide) (F.typeCall_enumerate_1 _) (F.newCall_enumerate_1 _) (fun obj => F.args_object_init_2 obj _) F.entry_enumerate_new (meets_enumK d o es ep hd hc hdat) ⟨ho, ?_⟩
  have z : (s.heap.push (kIt d es.size ep)).objs.size = s.heap.objs.size + 1 := Heap.size_push ..
  show _ ∧ _
  rw [z]
  have he : IsEnum ((s.heap.push (kIt d es.size ep)).push (enO s.heap.objs.size)) (s.heap.objs.size + 1) s.heap.objs.size 0 .none := by
    have q := Heap.get?_push_size (s.heap.push (kIt d es.size ep)) (o := enO s.heap.objs.size) rfl
    rw [z] at q
    exact q
  exact ⟨⟨_, he, rfl⟩, h _ he ⟨_, Heap.get?_push_of_some _ (Heap.get?_push_size _ rfl), rfl, rfl⟩ fun b o x => Heap.get?_push_of_some _ (Heap.get?_push_of_some _ x)⟩
end
/-- the keys of the locked dict d, each in a new pair -/
def ItK2 (d : Addr) (o : Obj) (kvs : List (Key × V)) : It :=
  ⟨fun i H => H d = some (.frz o (.dK kvs)) ∧ i < kvs.length, fun i H v H' => ∃ T k x, v = .ref T ∧ H T = none ∧ H' = upd H T (.tup [.int (i : Nat), kV k]) ∧ kvs[i]? = some (k, x), fun i H => H d = some (.frz o (.dK kvs)) ∧ kvs.length = i⟩
theorem turn_enumK {P : Program} {w : World} {K : PySem.W.Frag} {elts : List Expr} {kk : Nat} {tpos : Pos} (d e it : Addr) (o : Obj) (es : Array DictEntry) (ep : Nat) (kvs : List (Key × V)) (hod : o.data = .dict es ep) (hde : d ≠ e) (hdi : d ≠ it) (hsz0 : es.size = kvs.length) :
    Turn P w K (.Tuple elts kk tpos) (ItK2 d o kvs) [e, it] e (fun i h => (∃ old, IsEnum h e it ((i : Nat) : Int) old) ∧ h.IsKeyIter it d i es.size ep ∧ e ≠ it) where
  mem := by simp
  obj := fun i h st b hb => by
    obtain ⟨⟨old, he⟩, ⟨o, ho, hc, hd⟩, _⟩ := st
    rcases (by simpa using hb : b = e ∨ b = it) with z | z
    · rw [z]; exact ⟨_, he, fun v q => nomatch q⟩
    · rw [z]; exact ⟨o, ho, fun v q => by rw [hd] at q; cases q⟩
  keep := fun i h h' ⟨⟨old, he⟩, hi, hne⟩ k => ⟨⟨old, k e (by simp) _ he⟩, hi.at fun o q => k it (by simp) o q, hne⟩
  item := by
    intro X hP hw hK hc i pins s σ H E I hf st hg
    subst hP hw hK
    obtain ⟨⟨old, he⟩, hit, hne⟩ := st
    obtain ⟨hd, hi⟩ := hg
    obtain ⟨hs, hgd, hx, es', ep', vs, hdt, hsz, kv, hm⟩ := I.frzK hd
    obtain ⟨rfl, rfl⟩ := dict_ep hod hdt
    obtain ⟨⟨k, v⟩, hkv⟩ : ∃ p, kvs[i]? = some p := ⟨kvs[i], List.getElem?_eq_getElem hi⟩
    obtain ⟨u, hu, ru⟩ := kv_get kv hkv
    have hel : e < s.heap.objs.size := Heap.lt_size he
    have hil : it < s.heap.objs.size := by obtain ⟨_, q, _⟩ := hit; exact Heap.lt_size q
    have dr := drawsK (prog := X.prog) (w := X.w) (A := X.A.in1) (I.ok.hd hc) it d hdi o es' ep' hod
    refine wpAny_pyNext_enum_itemD dr he ⟨hit, hgd⟩ (by rw [hsz]; exact hi) hne (by simp [hne, hde.symm]) fun x' h' tk ⟨en, hen, hx'⟩ ho hit' hT hsz' hk => ?_
    have rk : RelV (kV k) x' := by
      obtain ⟨od, es2, hod2, _, hdd2, _, hp, _⟩ := id hm
      rw [hgd] at hod2; cases hod2
      rw [hod] at hdd2; cases hdd2
      rw [hx']
      exact relV_key (show keyIs k en.key = true from (hp.get? (by rw [Array.getElem?_toList]; exact hen) hu).1)
    refine ⟨_, rfl, wpAny_letOwnedTupleGo_enum (s := { s with heap := h', toks := tk + 1 }) ho fun h'' he' sb => ?_⟩
    have hT2 : h''.get? s.heap.objs.size = some { cls := .type "tuple", data := .seq #[.int i tk, x'] } := (sb.2 _ (Nat.ne_of_gt hel)).trans hT
    have new : ObjOk X.prog X.w (upd H s.heap.objs.size (.tup [.int (i : Nat), kV k])) h'' s.heap.objs.size (.tup [.int (i : Nat), kV k]) :=
      ⟨by show 2 ≤ sizeLine; decide, [.int i tk, x'], .cons ⟨_, rfl⟩ (.cons rk .nil), ⟨_, hT2, rfl, _, rfl⟩⟩
    have I1 : Inv X pins σ (upd H s.heap.objs.size (.tup [.int (i : Nat), kV k])) { s with heap := h'', toks := tk + 1 } :=
      I.turnedNew (ch := [e, it]) (fun b ob hb q => (sb.2 b (fun z => hb (by simp [z]))).trans (hk b ob (fun z => hb (by simp [z])) (fun z => hb (by simp [z])) q)) hf (Nat.le_refl _) new
    refine ⟨.ref s.heap.objs.size, _, I1, rfl, ⟨_, k, v, rfl, I.hok.fresh (Nat.le_refl _), rfl, hkv⟩, ⟨⟨x', he'⟩, hit'.1.at fun o q => (sb.2 it (Ne.symm hne)).trans q, hne⟩, fun b hb => ?_⟩
    have hb' : b < s.heap.objs.size := by
      rcases (by simpa using hb : b = e ∨ b = it) with z | z
      · rw [z]; exact hel
      · rw [z]; exact hil
    rw [upd_ne (Nat.ne_of_lt hb')]
    exact (hf b hb).1
  done := by
    intro X hP hw hK hc i pins s σ H E I hf st hg
    subst hP hw hK
    obtain ⟨⟨old, he⟩, hit, hne⟩ := st
    obtain ⟨hd, hx⟩ := hg
    obtain ⟨hs, hgd, hx2, es', ep', vs, hdt, hsz, kv, hm⟩ := I.frzK hd
    obtain ⟨rfl, rfl⟩ := dict_ep hod hdt
    obtain ⟨f0, f1, f2, f3, f4, f5⟩ := hf it (by simp)
    have hl : es'.size = i := by rw [hsz]; exact hx
    subst hl
    exact wpAny_pyNext_enum_endD (drawsK (prog := X.prog) (w := X.w) (A := X.A.in1) (I.ok.hd hc) it d hdi o es' ep' hod) he ⟨hit, hgd⟩ fun h' eb => ⟨rfl, I.turned (t' := s.toks) (fun b o hb q => eb b o hb q) f0 f1 f3 f4 f5⟩
  self := fun A i s Q E ⟨⟨_, he⟩, _⟩ h => wpAny_pyIter_enum he h
def iEnumK (ta : TA) : TI := fun σ H R => ta σ H fun vs H1 => ∃ d o kvs, vs = [.ref d] ∧ H1 d = some (.frz o (.dK kvs)) ∧ R (ItK2 d o kvs) H1
theorem pi_enumK {X : Cx} {e : Expr} {ta : TA} {p pos tpos : Pos} {elts : List Expr} {kk : Nat} (hg : Gl X "enumerate") (hm : X.mg "enumerate" = none) (ha : PA X [e] ta) (hs : starEach [e] X.env = [(false, eval e X.env)] := by rfl) :
    PI X (.Tuple elts kk tpos) (.Call (.Name "enumerate" p) [e] [] pos) (iEnumK ta) := by
  refine ⟨fun pins s σ H R I h => ?_⟩
  refine Call_ (ld_blt I hg hm boot_enumerate (PyProof.Rows.callWith_type1 (thn (ha.run pos pins s σ H _ I h) fun us s1 ⟨vs, H1, I1, r1, q1⟩ => ?_) hs rfl))
  obtain ⟨d, o, kvs, ex, hd, q⟩ := q1
  subst ex
  cases r1 with
  | cons rl rr =>
    cases rr
    cases rl
    obtain ⟨hsy, hgd, hx, es, ep, vs, hdt, hsz, kv, hmm⟩ := I1.frzK hd
    have hdl : d < s1.heap.objs.size := Heap.lt_size hgd
    refine callEnumK hsy hgd hx hdt fun h' he hit hk => wpAny_pyIter_enum he ?_
    refine ⟨s1.heap.objs.size + 1, [s1.heap.objs.size + 1, s1.heap.objs.size], _, _, H1, rfl, I1.kept (t' := s1.toks) hk, turn_enumK d (s1.heap.objs.size + 1) s1.heap.objs.size o es ep kvs hdt (Nat.ne_of_lt (Nat.lt_succ_of_lt hdl)) (Nat.ne_of_lt hdl) hsz, ⟨⟨.none, he⟩, hit, Nat.succ_ne_self _⟩, fun b hb => ?_, q⟩
    have hle : s1.heap.objs.size ≤ b := by
      rcases (by simpa using hb : b = s1.heap.objs.size + 1 ∨ b = s1.heap.objs.size) with z | z
      · rw [z]; exact Nat.le_succ _
      · rw [z]; exact Nat.le_refl _
    exact I1.fpOk hle (I1.hok.fresh hle)
section
variable {X : Cy} {e a b c o tg kx vx elt i : Expr} {es ifs elts : List Expr} {kk : Nat} {st : Stmt} {sts rest body orelse : List Stmt} {r : Env2} {G : GD} {pos tpos apos cpos p0 : Pos} {D0 : EndsD} {α β γ σT ρ : Type}
theorem ti_enumD {κ ν : Type} {k : κ → Key} {f : ν → D} {Q : List D → Env2 → GD → Prop} (hg : Gl X "enumerate") (hm : X.mg "enumerate" = none) (h : WE X a r G fun x r1 G1 => ∃ (kvs : List (κ × ν)) (r2 : Env2), fz r1 x = some (eD k f kvs, r2) ∧ ((penum (kvs.map (·.1))).length ≤ LIM → Q ((penum (kvs.map (·.1))).map (eP eI fun x => kD (k x))) r2 G1)) (hst : starEach [a] X.env = [(false, eval a X.env)] := by rfl) :
    WI X (.Tuple elts kk tpos) (.Call (.Name "enumerate" p0) [a] [] pos) r G Q := fun F0 T F H σ lk S =>
  RunI.of (pi_enumK hg hm (pa_cons peR pa_nil hst) hst) ((h F0 T F H σ lk S).bl.mono fun v H1 ⟨bl, x, r1, G1, F1, e1, S1, k1, kvs, r2, q1, q2⟩ => by
    obtain ⟨Fa, e2, Sa, rp⟩ := S1.fz k1 q1
    obtain ⟨ad, ob, vs, rfl, z1, z2, z3⟩ := rp
    have hl : (kvs.map fun p => k p.1).length = vs.length := by rw [z3.length]; exact z2
    have hl2 : ((kvs.map fun p => k p.1).zip vs).length = kvs.length := by rw [zip_len hl, List.length_map]
    have hlim : kvs.length ≤ LIM := by have := bl.2.2 ad _ (.inr ⟨ob, Sa.bas.fh _ _ z1⟩); rw [hl2] at this; exact this
    have hpl : (penum (kvs.map (·.1))).length = kvs.length := by unfold penum; rw [penumF_len, List.length_map]
    have e9 : enumD 0 ((kvs.map (·.1)).map fun x => kD (k x)) = (penum (kvs.map (·.1))).map (eP eI fun x => kD (k x)) := enum_map _ 0
    rw [← e9] at q2
    refine ⟨ad, ob, _, rfl, Sa.bas.fh _ _ z1, enumD 0 ((kvs.map (·.1)).map fun x => kD (k x)), r2, G1, Fa, e1.trans e2, Sa, fun F H ea eh => ⟨⟨eh _ _ (ea _ _ z1), by rw [enumD_len, hl2, List.length_map, List.length_map]⟩, fun i d hi => ?_⟩, q2 (by rw [hpl]; exact hlim)⟩
    obtain ⟨d', hd, rfl⟩ := enumD_get hi
    rw [List.map_map, List.getElem?_map] at hd
    cases hk : kvs[i]? with
    | none => rw [hk] at hd; cases hd
    | some kv =>
      rw [hk] at hd; cases hd
      have hlt : i < kvs.length := (List.getElem?_eq_some_iff.mp hk).1
      refine ⟨⟨eh _ _ (ea _ _ z1), by rw [hl2]; exact hlt⟩, fun x H' ⟨p, key, y, hx, hp, hH, hy⟩ => .inr ⟨p, _, hp, hH, hx, ?_⟩⟩
      have := (zip_get' hy).1
      rw [List.getElem?_map, hk] at this; cases this
      rw [Nat.zero_add]
      exact rep_pair (none_F eh hp) rfl (kD_rep _))
end
open Out (Rt)
section
variable {X : Cy} {e a b c o tg kx vx elt i : Expr} {es ifs : List Expr} {st : Stmt} {sts rest body orelse : List Stmt} {r : Env2} {G : GD} {pos tpos apos cpos p0 : Pos} {D0 : EndsD} {α β γ σT ρ : Type}
theorem ResOk.newH {K : PySem.W.Frag} {T F : Hp} {G : GD} {H : Hp} {r : Env2} {σ : L2.St} {x : Res} {v : V} {p : Addr} {o : HO} (h : ResOk K T F G H r σ x v) (hp : H p = none) (hx : ∀ i, x ≠ .pk i) : ResOk K T F G (upd H p o) r σ x v := by
  cases x with
  | sh d => exact h
  | fr d =>
    obtain ⟨q, h1, h2, h3⟩ := h
    exact ⟨q, h1, h2.mono (Ex.refl _) fun o' e => by rw [upd_ne (ne_of_none e hp)]; exact e, h3⟩
  | pk i => exact absurd rfl (hx i)
end
open Out (Rt)
section
variable {X : Cy} {e a b c o tg kx vx elt i : Expr} {es ifs : List Expr} {st : Stmt} {sts rest body orelse : List Stmt} {r : Env2} {G : GD} {pos tpos apos cpos p0 : Pos} {D0 : EndsD} {α β γ σT ρ : Type}
theorem ints_rep {K : PySem.W.Frag} {F : Hp} : ∀ (ns : List Int), RepL K F (ns.map D.int) (ns.map V.int)
  | [] => rfl
  | n :: ns => ⟨_, _, rfl, rfl, ints_rep ns⟩
theorem Vw.scr {K : PySem.W.Frag} {F H : Hp} (ex : Ex F H) {ns : List Int} {v : V} (h : Vw K F H (.scr ns) v) : ∃ a, v = .ref a ∧ SqL K H a (ns.map V.int) := by
  rcases h with ⟨a, h1, h2⟩ | ⟨_, _, h⟩
  · exact ⟨a, h1, ex.sqL h2⟩
  · exact h.elim
theorem c_listR {ns : List Int} {Q : Res → Prop} (q : Q (.fr (.lst (ns.map D.int)))) : CallW1 X (.type "list") (.scr ns) Q := fun F0 T F G H r σ v S hv => by
  obtain ⟨p, rfl, k1⟩ := hv.scr S.bas.fh
  exact ⟨_, call_list_of, p, _, rfl, .inl k1, fun l hl => new_lst S (ints_rep ns) hl q⟩
theorem wi_scr {Q : List D → Env2 → GD → Prop} (h : WE X e r G fun x r1 G1 => ∃ ns r2, fz r1 x = some (.scr ns, r2) ∧ Q (ns.map D.int) r2 G1) : WI X tg e r G Q := fun F0 T F H σ lk S =>
  RunI.of (pi_list peR) ((h F0 T F H σ lk S).mono fun v H1 ⟨x, r1, G1, F1, e1, S1, k1, ns, r2, q1, q2⟩ => by
    obtain ⟨Fa, e2, Sa, rp⟩ := S1.fz k1 q1
    obtain ⟨a, rfl, z1⟩ := rp
    refine ⟨a, rfl, ⟨_, Sa.bas.fh.sqL z1⟩, ns.map D.int, r2, G1, Fa, e1.trans e2, Sa, fun F H ea eh => ⟨⟨_, eh.sqL (ea.sqL z1), by rw [List.length_map, List.length_map]; exact Nat.le_refl _⟩, fun i d hi => ?_⟩, q2⟩
    rw [List.getElem?_map] at hi
    cases hn : ns[i]? with
    | none => rw [hn] at hi; cases hi
    | some n =>
      rw [hn] at hi; cases hi
      exact ⟨⟨_, .int n, eh.sqL (ea.sqL z1), by rw [List.getElem?_map, hn]; rfl⟩, fun x H' ⟨y1, y2⟩ => .inl ⟨y1, by
        have := y2 _ (eh.sqL (ea.sqL z1))
        rw [List.getElem?_map, hn] at this; cases this; rfl⟩⟩)
end
instance instRgOk (a b : Int) : Decidable (RgOk a b) := by unfold RgOk; infer_instance
/-- a law: the script in, a truth value out; nothing is said of the open region behind it -/
def FLaw (f : List Int → Out Bool) : FSp := fun ds _ post _ => ∃ ns, ds = [.scr ns] ∧ (f ns).sat (fun v => ∀ G', post (.sh (.bl v)) G') (fun _ => False)
open Out (Rt)
def alB : Nat → D → Bool
  | _, .non => true
  | _, .bl _ => true
  | _, .int _ => true
  | _, .str _ => true
  | n + 1, .tup ds => decide (ds.length ≤ LIM) && ds.all (alB n)
  | n + 1, .lst ds => decide (ds.length ≤ LIM) && ds.all (alB n)
  | _, _ => false
def alikeF (n : Nat) : FSp := fun ds G post _ => ∃ d, ds = [d, d] ∧ alB n d = true ∧ post (.sh (.bl true)) G
open Out (Rt)
/-- membership, by the items' own equality -/
def memB {α : Type} [DecidableEq α] (x : α) (xs : List α) : Bool := decide (x ∈ xs)
structure FlC {α : Type} (en : α → D) (vf : α → V) : Prop where
  rep : ∀ (K : PySem.W.Frag) (F : Hp) (a : α) (v : V), Rep K F (en a) v → v = vf a
  nown : ∀ (K : PySem.W.Frag) (F H : Hp) (p : Addr) (a : α), ¬ Own K F H p (en a)
  flat : ∀ a, flatV (vf a) = true
  eq : ∀ a b, eqV (vf a) (vf b) = true ↔ a = b
section
variable {X : Cy} {α : Type} [DecidableEq α] {en : α → D} {vf : α → V}
theorem FlC.all (h : FlC en vf) {K : PySem.W.Frag} {F : Hp} : ∀ {xs : List α} {vs : List V}, RepL K F (xs.map en) vs → vs = xs.map vf
  | [], _, e => e
  | x :: xs, _, ⟨v, r, e1, e2, e3⟩ => by subst e1; rw [h.rep K F x v e2, h.all e3]; rfl
theorem t_ninM {n : Nat} (h : EqC en n) (hu : X.A.units + 65 < cLine) (x : α) (xs : List α) {Q : Res → Prop} (q : Q (.sh (.bl (!memB x xs)))) (hn : n + 1 ≤ 64 := by decide) : OpW X (compareOp .NotIn) (en x) (.lst (xs.map en)) Q := t_ninD h hu x xs q hn
end
open Out (Rt)
section
variable {X : Cy} {e a b c o tg kx vx elt i : Expr} {es ifs : List Expr} {st : Stmt} {sts rest body orelse : List Stmt} {r : Env2} {G : GD} {pos tpos apos cpos p0 : Pos} {D0 : EndsD} {α β γ σT ρ : Type}
theorem opw_fdivE {Q : Res → Prop} {i j : Int} (hc : 0 < j ∧ j < 2 ^ 200) (q : Q (.sh (.int (i / j)))) : OpW X (binaryOp .FloorDiv) (.int i) (.int j) Q :=
  opw_flat (d := .int (i / j)) (v := .int (i / j)) (fun _ _ => rfl) (fun F H va vb _ h1 h2 => ⟨_, op_fdivW, fun P p => ⟨i, j, h1.int, h2.int, wide_div (b := 200) hc.1 (by have := hc.2; have := hc.1; omega) (by decide) (by decide), p⟩⟩) q
/-- results that are held together -/
def NzL (K : PySem.W.Frag) (T F : Hp) (G : GD) (H : Hp) (r : Env2) (σ : L2.St) : List Res → List V → Prop
  | [], vs => vs = []
  | z :: zs, vs => ∃ v us, vs = v :: us ∧ ResOk K T F G H r σ z v ∧ (∀ i, z ≠ .pk i) ∧ (∀ z2 v2, (z2, v2) ∈ zs.zip us → ∀ d d2, z = .fr d → z2 = .fr d2 → v ≠ v2) ∧ NzL K T F G H r σ zs us
theorem NzL.len {K : PySem.W.Frag} {T F : Hp} {G : GD} {H : Hp} {r : Env2} {σ : L2.St} : ∀ {zs : List Res} {vs : List V}, NzL K T F G H r σ zs vs → vs.length = zs.length
  | [], _, h => by rw [show _ = [] from h]; rfl
  | _ :: _, _, ⟨v, us, e, _, _, _, h⟩ => by rw [e, List.length_cons, List.length_cons, h.len]
theorem NzL.map {K : PySem.W.Frag} {T T' F : Hp} {G : GD} {H : Hp} {r : Env2} {σ : L2.St} (f : ∀ z v, ResOk K T F G H r σ z v → ResOk K T' F G H r σ z v) : ∀ {zs : List Res} {vs : List V}, NzL K T F G H r σ zs vs → NzL K T' F G H r σ zs vs
  | [], _, h => h
  | _ :: _, _, ⟨v, us, e, h1, h2, h3, h⟩ => ⟨v, us, e, f _ _ h1, h2, h3, h.map f⟩
theorem NzL.newH {K : PySem.W.Frag} {T F : Hp} {G : GD} {H : Hp} {r : Env2} {σ : L2.St} {p : Addr} {o : HO} (hp : H p = none) : ∀ {zs : List Res} {vs : List V}, NzL K T F G H r σ zs vs → NzL K T F G (upd H p o) r σ zs vs
  | [], _, h => h
  | _ :: _, _, ⟨v, us, e, h1, h2, h3, h⟩ => ⟨v, us, e, h1.newH hp h2, h2, h3, h.newH hp⟩
theorem NzL.setR {K : PySem.W.Frag} {T F : Hp} {G : GD} {H : Hp} {r : Env2} {σ : L2.St} {z : Res} {v : V} {i : Nat} (hi : i < r.length) (hl : r.length = σ.length) (hz : ∀ i, z ≠ .pk i) : ∀ {zs : List Res} {vs : List V}, (∀ z2 v2, (z2, v2) ∈ zs.zip vs → ∀ d d2, z = .fr d → z2 = .fr d2 → v ≠ v2) → NzL K T F G H r σ zs vs → NzL K T F G H (r.set i (slO z)) (σ.set i (some v)) zs vs
  | [], _, _, h => h
  | z2 :: zs, _, hd, ⟨v2, us, e, h1, h2, h3, h⟩ => by
    subst e
    exact ⟨v2, us, rfl, h1.setR hi hl hz h2 (hd z2 v2 (by simp)), h2, h3, h.setR hi hl hz fun z3 v3 hm => hd z3 v3 (by rw [List.zip_cons_cons]; exact List.mem_cons_of_mem _ hm)⟩
def RunGs (X : Cx) (ts : List Expr) : TGs := fun vs σ H Q => ∀ (pins : List (Addr × Obj)) (s : Shared) (us : List Value), Inv X pins σ H s → Vals vs us → wpAny (model X.prog X.w) X.A (assignInOrder ((assignEach ts X.env).map (·.2)) us) (fun _ s' => ∃ σ' H', Inv X pins σ' H' s' ∧ Q σ' H') X.xe s
theorem pgsR {X : Cx} {ts : List Expr} : PGs X ts (RunGs X ts) := ⟨fun pins s σ H vs us Q I rv h => h pins s us I rv⟩
theorem RunGs.of {X : Cx} {ts : List Expr} {t : TGs} {vs : List V} {σ : L2.St} {H : Hp} {Q : L2.St → Hp → Prop} (h : PGs X ts t) (k : t vs σ H Q) : RunGs X ts vs σ H Q := fun pins s us I rv => h.run pins s σ H vs us Q I rv k
theorem RunG.of {X : Cx} {tg : Expr} {t : TG} {v : V} {σ : L2.St} {H : Hp} {Q : L2.St → Hp → Prop} (h : PG X tg t) (k : t v σ H Q) : RunG X tg v σ H Q := fun pins s u I rv => h.run pins s σ H v u Q I rv k
theorem RunG.mono {X : Cx} {tg : Expr} {v : V} {σ : L2.St} {H : Hp} {Q Q' : L2.St → Hp → Prop} (h : RunG X tg v σ H Q) (k : ∀ σ' H', Q σ' H' → Q' σ' H') : RunG X tg v σ H Q' := fun pins s u I rv => wpAny_mono (h pins s u I rv) (fun _ _ ⟨σ', H', I', q⟩ => ⟨σ', H', I', k σ' H' q⟩) fun _ _ x => x
theorem RunGs.mono {X : Cx} {ts : List Expr} {vs : List V} {σ : L2.St} {H : Hp} {Q Q' : L2.St → Hp → Prop} (h : RunGs X ts vs σ H Q) (k : ∀ σ' H', Q σ' H' → Q' σ' H') : RunGs X ts vs σ H Q' := fun pins s us I rv => wpAny_mono (h pins s us I rv) (fun _ _ ⟨σ', H', I', q⟩ => ⟨σ', H', I', k σ' H' q⟩) fun _ _ x => x
def WGs (X : Cy) (ts : List Expr) (ds : List D) (r : Env2) (G : GD) (is : List Nat) (Q : Env2 → GD → Prop) : Prop :=
  ∀ (F0 T F H : Hp) (σ : L2.St) (vs : List V), Lk X F0 T → Sta X.K F0 T F G H r σ → RepL X.K F ds vs → RunGs X ts vs σ H (fun σ' H' => wipe σ' is = wipe σ is ∧ ∃ r' G' F', Ex F F' ∧ Sta X.K F0 T F' G' H' r' σ' ∧ Q r' G')
theorem wgs_nil {is : List Nat} {Q : Env2 → GD → Prop} (q : Q r G) : WGs X [] [] r G is Q := fun F0 T F H σ vs lk S rp => RunGs.of pgs_nil ⟨rp, rfl, r, G, F, Ex.refl _, S, q⟩
theorem wgs_cons {t : Expr} {ts : List Expr} {d : D} {ds : List D} {is : List Nat} {Q : Env2 → GD → Prop} (h : WG X t d r G is fun r1 G1 => WGs X ts ds r1 G1 is Q)
    (hs : (assignEach (t :: ts) X.env).map (·.2) = assign t X.env :: (assignEach ts X.env).map (·.2) := by rfl) : WGs X (t :: ts) (d :: ds) r G is Q := fun F0 T F H σ vs lk S rp => by
  obtain ⟨v, us, rfl, r1, r2⟩ := rp
  refine RunGs.of (pgs_cons pgR pgsR hs) ⟨v, us, rfl, (h F0 T F H σ v lk S r1).mono fun σ1 H1 ⟨w1, r', G', F1, e1, S1, q1⟩ => ?_⟩
  exact (q1 F0 T F1 H1 σ1 us lk S1 (RepL.mono e1 _ _ r2)).mono fun σ2 H2 ⟨w2, r2, G2, F2, e2, S2, q2⟩ => ⟨w2.trans w1, r2, G2, F2, e1.trans e2, S2, q2⟩
theorem wg_tupN {ts : List Expr} {k : Nat} {ds : List D} {is : List Nat} {Q : Env2 → GD → Prop} (hc : X.calm = true) (h : WGs X ts ds r G is Q)
    (hn : (assignEach ts X.env).length = ds.length := by rfl) (hf : (assignEach ts X.env).findIdx? (·.1) = none := by rfl) : WG X (.Tuple ts k pos) (.tup ds) r G is Q := fun F0 T F H σ v lk S rp => by
  obtain ⟨a, vs, rfl, z1, z2⟩ := rp
  exact RunG.of (pg_tup hc pgsR hn hf) ⟨a, vs, rfl, S.bas.fh.sqT z1, z2.length, h F0 T F H σ vs lk S z2⟩
/-- target = frozen data -/
theorem ws_asgG (is : List Nat) (h : WE X e r G fun x r1 G1 => ∃ d r2, fz r1 x = some (d, r2) ∧ WG X tg d r2 G1 is fun r3 G3 => D0.nx r3 G3)
    (hs : swapsWithSole [tg] e pos.line X.env = pure false := by rfl) (hw : swappedStores [tg] e X.env = pure none := by rfl)
    (h1 : (assignEach [tg] X.env).map (·.2) = [assign tg X.env] := by rfl) : WS X (.Assign [tg] e pos) r G D0 := fun F0 T F H σ lk S =>
  RunS.of (ps_asg peR pgR hs hw h1) ((h F0 T F H σ lk S).mono fun v H1 ⟨x, r1, G1, F1, e1, S1, k1, d, r2, q1, q2⟩ => by
    obtain ⟨F2, e2, S2, rp⟩ := S1.fz k1 q1
    exact (q2 F0 T F2 H1 σ v lk S2 rp).mono fun σ' H' ⟨_, r', G', F', e', S', q'⟩ => ⟨r', G', F', S', q'⟩)
end
open Out (Rt)
section
variable {X : Cy} {e a b c o tg kx vx elt i : Expr} {es ifs : List Expr} {st : Stmt} {sts rest body orelse : List Stmt} {r : Env2} {G : GD} {pos tpos apos cpos p0 : Pos} {D0 : EndsD} {α β γ σT ρ : Type}
theorem we_frzS (i : Nat) {d : D} {Q : Res → Env2 → GD → Prop} (hi : r[i]? = some (.own d)) (hD : isDic d = false) (h : WE X e (r.set i (.sh d)) G Q) : WE X e r G Q := fun F0 T F H σ lk S => by
  obtain ⟨F', k1, k2, _⟩ := S.frzSlot hD hi
  exact (h F0 T F' H σ lk k2).mono fun v H1 ⟨x, r1, G1, F1, e1, S1, q⟩ => ⟨x, r1, G1, F1, k1.trans e1, S1, q⟩
instance instRgC (i j c : Int) (n : Nat) : Decidable (RgC i j c n) := by unfold RgC; infer_instance
end
open Out (Rt)
theorem Room.u65 {k : Nat} {A : Around} (r : Room k A) : A.units + 65 < cLine := by have := r.un; omega
structure OrC {α : Type} (en : α → D) (n : Nat) : Prop where
  eqc : EqC en n
  al : ∀ a b, PySem.W.alike (toP (en a)) (toP (en b)) = true
  nn : ∀ a, toP (en a) ≠ .none
  dp : ∀ a, (toP (en a)).depth ≤ n
section
variable {α β γ : Type}
def ltC (en : α → D) (a b : α) : Bool := PySem.W.dataLt (toP (en a)) (toP (en b))
def leC (en : α → D) (a b : α) : Bool := !ltC en b a
def dsort (en : α → D) (xs : List α) : List α := xs.mergeSort (leC en)
theorem orc_int : OrC eI 0 := ⟨eqc_int, fun _ _ => rfl, (fun _ h => nomatch h), fun a => (by show PyData.depth (toP (eI a)) ≤ 0; simp [toP, PyData.depth])⟩
theorem orc_bool : OrC eB 0 := ⟨eqc_bool, fun _ _ => rfl, (fun _ h => nomatch h), fun a => (by show PyData.depth (toP (eB a)) ≤ 0; simp [toP, PyData.depth])⟩
theorem orc_pair {f : α → D} {g : β → D} {n : Nat} (h : OrC f n) (k : OrC g n) : OrC (eP f g) (n + 1) := by
  refine ⟨eqc_pair h.eqc k.eqc, fun a b => ?_, (fun _ z => nomatch z), fun a => ?_⟩
  · show PySem.W.alike (.tuple [toP (f a.1), toP (g a.2)]) (.tuple [toP (f b.1), toP (g b.2)]) = true
    simp [PySem.W.alike, PySem.W.alikeAll, h.al, k.al]
  · show PyData.depth (.tuple [toP (f a.1), toP (g a.2)]) ≤ n + 1
    have h1 := h.dp a.1
    have h2 := k.dp a.2
    simp [PyData.depth, PyData.depthAll]; omega
end
section
variable {X : Cy} {α : Type} {en : α → D} {n : Nat} {Q : Res → Prop}
theorem OrC.dpv (h : OrC en n) {K : PySem.W.Frag} {F H : Hp} (ex : Ex F H) {a : α} {v : V} (hv : Vw K F H (en a) v) : Dp K H v (toP (en a)) := okD.dp ex n _ _ (h.eqc.ok a) hv
end
section
variable {α : Type}
theorem each_of {β : Type} {P : V → β → Prop} : ∀ {xs : List V} {us : List Value} {bs : List β}, Vals xs us → Paired P xs bs → PySem.W.EachIs (fun u b => ∃ x, RelV x u ∧ P x b) us bs
  | _, _, _, .nil, .nil => .nil
  | _, _, _, .cons r rs, .cons p ps => .cons ⟨_, r, p⟩ (each_of rs ps)
theorem of_each {β : Type} {P : V → β → Prop} : ∀ {us : List Value} {bs : List β}, PySem.W.EachIs (fun u b => ∃ x, RelV x u ∧ P x b) us bs → ∃ xs, Vals xs us ∧ Paired P xs bs
  | _, _, .nil => ⟨[], .nil, .nil⟩
  | _, _, .cons ⟨x, r, p⟩ t => by
    obtain ⟨xs, h1, h2⟩ := of_each t
    exact ⟨x :: xs, .cons r h1, .cons p h2⟩
end
open Out (Rt)
section
variable {X : Cy} {α : Type} {en : α → D} {n : Nat} {Q : Res → Prop}
theorem repl_paired {K : PySem.W.Frag} {F : Hp} : ∀ {xs : List α} {vs : List V}, RepL K F (xs.map en) vs → Paired (fun v a => Rep K F (en a) v) vs xs
  | [], _, h => by rw [show _ = [] from h]; exact .nil
  | x :: xs, _, ⟨v0, vs', e, h1, h2⟩ => by subst e; exact .cons h1 (repl_paired h2)
theorem paired_repl {K : PySem.W.Frag} {F : Hp} : ∀ {xs : List α} {vs : List V}, Paired (fun v a => Rep K F (en a) v) vs xs → RepL K F (xs.map en) vs
  | [], _, .nil => rfl
  | x :: xs, _, .cons h t => ⟨_, _, rfl, h, paired_repl t⟩
theorem leC_data : PySem.W.dataLe false (fun a : α => toP (en a)) = leC en := by
  funext a b
  rw [PySem.W.dataLe_eq]
  rfl
theorem so_pair {β : Type} {f : α → D} {g : β → D} (xs : List (α × β)) : PySem.W.Sortable (xs.map fun a => toP (eP f g a)) := PySem.W.Sortable.tuples fun a => ⟨_, _, rfl⟩
end
open Out (Rt)
open Out (Rt)
abbrev Bh := { x : List Int × Int × Int // x.1.length ≤ 63 }
def bxH (G0 : GD) (b g : Addr) (x : Bh) : GD := updG (updG G0 g (.lst (x.1.1.map D.int))) b (.lst [.int x.1.2.1, .adr g, .int x.1.2.2])
def FBh {A R : Type} (en : A → List D) (er : R → Res) (f : A → Bh → Out (R × Bh)) : FSp := fun ds G post _ => ∃ (a : A) (G0 : GD) (b g : Addr) (x : Bh), g ≠ b ∧ ds = .adr b :: en a ∧ G = bxH G0 b g x ∧ (f a x).sat (fun v => post (er v.1) (bxH G0 b g v.2)) (fun _ => False)
theorem bxH_b {G0 : GD} {b g : Addr} {x : Bh} : bxH G0 b g x b = some (.lst [.int x.1.2.1, .adr g, .int x.1.2.2]) := updG_same
theorem bxH_g {G0 : GD} {b g : Addr} {x : Bh} (h : g ≠ b) : bxH G0 b g x g = some (.lst (x.1.1.map D.int)) := by unfold bxH; rw [updG_ne h, updG_same]
theorem bxH_setB {G0 : GD} {b g : Addr} {x : Bh} {st ix : Int} : updG (bxH G0 b g x) b (.lst [.int st, .adr g, .int ix]) = bxH G0 b g ⟨(x.1.1, st, ix), x.2⟩ := by
  unfold bxH
  funext a
  by_cases h : a = b
  · subst h; rw [updG_same, updG_same]
  · rw [updG_ne h, updG_ne h, updG_ne h]
theorem bxH_setG {G0 : GD} {b g : Addr} {x : Bh} {ns : List Int} (hl : ns.length ≤ 63) (h : g ≠ b) : updG (bxH G0 b g x) g (.lst (ns.map D.int)) = bxH G0 b g ⟨(ns, x.1.2), hl⟩ := by
  unfold bxH
  funext a
  by_cases h1 : a = g
  · subst h1; rw [updG_same, updG_ne h, updG_same]
  · rw [updG_ne h1]
    by_cases h2 : a = b
    · subst h2; rw [updG_same, updG_same]
    · rw [updG_ne h2, updG_ne h1, updG_ne h2, updG_ne h1]
/-- the def that makes it -/
def FMix (m : (ns : List Int) → ns.length ≤ 63 → Int → Bh) : FSp := fun ds G post _ => ∃ (ns : List Int) (seed : Int) (h : ns.length ≤ 63), ds = [.scr ns, .int seed] ∧ ∀ b g, g ≠ b → G b = none → G g = none → post (.sh (.adr b)) (bxH G b g (m ns h seed))
open Out (Rt)
section
variable {X : Cy} {e a b c o tg kx vx elt : Expr} {es ifs : List Expr} {st : Stmt} {sts rest body orelse : List Stmt} {r : Env2} {G : GD} {pos tpos apos cpos p0 : Pos} {D0 : EndsD} {α β γ σT ρ : Type}
/-- isinstance(x, (S, T)) of two built-in classes -/
theorem we_isiT {x y z : Str} {n m : String} {py pz pt : Pos} {kx} {Q : Res → Env2 → GD → Prop} (hg : Gl X x) (hm : X.mg x = none) (hv : bootBuiltins x = some (.builtin "isinstance")) (hg2 : Gl X y) (hm2 : X.mg y = none) (hv2 : bootBuiltins y = some (.type n)) (hg3 : Gl X z) (hm3 : X.mg z = none) (hv3 : bootBuiltins z = some (.type m))
    (h : WE X a r G fun q r1 G1 => ∃ d t c, q = .sh d ∧ tyD d = some t ∧ PySem.W.kitAny X.K t [.type n, .type m] = some c ∧ Q (.sh (.bl c)) r1 G1)
    (hn : x ≠ "__name__" := by decide) (hdb : (x == ("__debug__" : Str)) = false := by decide) (hn2 : y ≠ "__name__" := by decide) (hdb2 : (y == ("__debug__" : Str)) = false := by decide) (hn3 : z ≠ "__name__" := by decide) (hdb3 : (z == ("__debug__" : Str)) = false := by decide)
    (he : starEach [a, .Tuple [.Name y py, .Name z pz] kx pt] X.env = (false, eval a X.env) :: starEach [.Tuple [.Name y py, .Name z pz] kx pt] X.env := by rfl) (he2 : starEach [.Tuple [.Name y py, .Name z pz] kx pt] X.env = (false, eval (.Tuple [.Name y py, .Name z pz] kx pt) X.env) :: starEach [] X.env := by rfl)
    (he3 : starEach [.Name y py, .Name z pz] X.env = (false, eval (.Name y py) X.env) :: starEach [.Name z pz] X.env := by rfl) (he4 : starEach [.Name z pz] X.env = (false, eval (.Name z pz) X.env) :: starEach [] X.env := by rfl)
    (hpl : (backTo pos (starEach [.Tuple [.Name y py, .Name z pz] kx pt] X.env)).any (·.1) = false := by rfl) :
    WE X (.Call (.Name x p0) [a, .Tuple [.Name y py, .Name z pz] kx pt] [] pos) r G Q := fun F0 T F H σ lk S =>
  Run.of (pe_callB call_isiT hg hm hv (pa_cons peR (pa_cons (pe_tup (pa_cons (pe_bltn (v := .ty n) hg2 hm2 hv2 rfl hn2 hdb2) (pa_cons (pe_bltn (v := .ty m) hg3 hm3 hv3 rfl hn3 hdb3) pa_nil he4) he3)) pa_nil he2) he) hn hdb he hpl) ((h F0 T F H σ lk S).mono fun v H1 ⟨q, r1, G1, F1, e1, S1, k1, d, t, c, q1, q2, q3, q4⟩ => by
    subst q1
    refine ⟨by rw [sizeLine_eq]; show 2 ≤ 16777216; decide, fun p hp => ?_⟩
    have ef : Ex F1 (upd F1 p (.tup [.ty n, .ty m])) := Ex.new (S1.bas.freshF hp).1
    have S2 := S1.newF (o := .tup [.ty n, .ty m]) hp
    exact ⟨v, p, [.ty n, .ty m], t, [.type n, .type m], c, rfl, upd_same, .cons (.ty n) (.cons (.ty m) .nil), tyX_of S2.bas.fh (S2.viewR (x := .sh d) (Rep.mono ef _ _ k1) (.inl rfl)) q2, q3, .sh (.bl c), r1, G1, _, e1.trans ef, S2, rfl, q4⟩)
end
/-- the box, made of any script -/
def mixT (m : (ns : List Int) → ns.length ≤ 63 → Int → Bh) (ns : List Int) (seed : Int) : Bh := if h : ns.length ≤ 63 then m ns h seed else ⟨([], 0, 0), by simp⟩
theorem mixT_pos {m : (ns : List Int) → ns.length ≤ 63 → Int → Bh} {ns : List Int} {seed : Int} (h : ns.length ≤ 63) : mixT m ns seed = m ns h seed := by unfold mixT; rw [dif_pos h]
open Out (Rt)
section
variable {P : Program} {w : World} {A : Around} {E : Value → Shared → Prop} {s : Shared}
/-- the object of set() -/
abbrev newS (w : World) : Obj := { cls := .type "set", dict := none, data := .set #[] 0 (.fresh 0 0 (!w.params.followText "set-order")) }
end
section
variable {X : Cy} {e a b c o tg kx vx elt : Expr} {r : Env2} {G : GD} {pos p0 p1 p2 : Pos}
/-- the different ints, ascending -/
def uniq (ns : List Int) : List Int := isort ((dmk (ns.map fun x => (x, true))).map (·.1))
end
open Out (Rt)
/-- a table grows by a code object -/
theorem Sta.tab {K : PySem.W.Frag} {F0 T F : Hp} {G : GD} {H : Hp} {r : Env2} {σ : L2.St} {P c : Addr} {q : Str} {ps more : Array Value} (S : Sta K F0 T F G H r σ) (hG : G P = some (.tab q)) (hc : H c = none)
    (ht : TriplesOk (ps ++ more).toList) (ha : ∀ (pos : Pos) (cv : Value), codeAmong pos (ps ++ more).toList = some cv → (∃ c0, cv = .ref c0 ∧ F c0 = some (LamX.CodeO c0 q)) ∨ cv = .ref c) :
    Sta K F0 T (upd F c (LamX.CodeO c q)) G (upd (upd H P (.tbl (ps ++ more))) c (LamX.CodeO c q)) r σ := by
  obtain ⟨fc, gc, tc⟩ := S.bas.freshF hc
  have fP := S.bas.fg _ _ hG
  have tP := S.bas.gt _ _ hG
  have hPc : P ≠ c := fun z => by subst z; obtain ⟨o, ho⟩ := S.bas.gh' hG; rw [hc] at ho; cases ho
  have ef : Ex F (upd F c (LamX.CodeO c q)) := Ex.new fc
  have at_ : ∀ a, a ≠ P → a ≠ c → upd (upd H P (.tbl (ps ++ more))) c (LamX.CodeO c q) a = H a := fun a h1 h2 => by rw [upd_ne h2, upd_ne h1]
  refine S.grow (G' := G) ⟨S.bas.ff.trans ef, fun a o h => ?_, fun a o h => ?_, fun a d h => ?_, fun a o h => ?_, S.bas.gt, fun a o h => ?_⟩ ef fun p h1 h2 h3 ⟨u, hu⟩ => ?_
  · by_cases e : a = c
    · subst e; exact .inr tc
    · rw [upd_ne e] at h; exact S.bas.ft a o h
  · by_cases e : a = c
    · subst e; rw [upd_same] at h ⊢; exact h
    · rw [upd_ne e] at h ⊢
      have eP : a ≠ P := fun z => by subst z; rw [fP] at h; cases h
      rw [upd_ne eP]; exact S.bas.fh a o h
  · by_cases e : a = P
    · subst e
      rw [hG] at h; cases h
      exact ⟨_, by rw [upd_ne hPc, upd_same], ht, fun pos cv hcv => by
        rcases ha pos cv hcv with ⟨c0, e1, e2⟩ | e1
        · exact ⟨c0, e1, ef _ _ e2⟩
        · exact ⟨c, e1, upd_same⟩⟩
    · have ec : a ≠ c := fun z => by subst z; rw [gc] at h; cases h
      exact (S.bas.gh a d h).mono ef fun o ho => by rw [at_ a e ec]; exact ho
  · have ec : a ≠ c := fun z => by subst z; rw [gc] at h; cases h
    rw [upd_ne ec]; exact S.bas.fg a o h
  · have ec : a ≠ c := ne_of_none h tc
    have eP : a ≠ P := ne_of_none h tP
    rw [at_ a eP ec]; exact S.bas.tk a o h
  · have ec : p ≠ c := fun z => by subst z; rw [hc] at hu; cases hu
    have eP : p ≠ P := fun z => by subst z; rw [h2] at hG; cases hG
    exact ⟨fun o ho => by rw [at_ p eP ec]; exact ho, by rw [upd_ne ec]; exact h1, h2, h3⟩
section
variable {Z : Cx} {x0 : Exn} {a0 : Addr} {Y : Cy} {oe : Obj} {pn : List (Addr × Obj)} {d : Option Addr} {F1 T1 : Hp} {r : Env2} {G : GD} {a : Expr} {pos p0 : Pos}
theorem ExOk.dict {K : PySem.W.Frag} {F H : Hp} {cls : Value} {d : Option Addr} {x : Exn} (h : ExOk K F cls d x) (e : Ex F H) : d = none ∨ ∃ dd fs, d = some dd ∧ H dd = some (.xd fs) := by
  obtain ⟨_, ⟨h2, h3⟩ | ⟨a, vs, h2, h3, h4⟩⟩ := h
  · exact .inl h2
  · exact .inr ⟨a, _, h2, e _ _ h3⟩
end
open Out (Rt)
open Out (Rt)
open Out (Rt)
open Out (Rt)
/-- its names: parameters that no slot bears, captured ones, globals -/
structure LamD (N : List Str) (sc scope : Scope) (a : Str) : Prop where
  kind : scope.kind = .function
  co : scope.isCoroutine = false
  gen : scope.isGenerator = false
  nocell : ∀ y ∈ scope.names, y.2 ≠ .cell
  own : ∀ y ∈ scope.names, y.2 = .local → y.1 ∉ N
  free : ∀ y ∈ scope.names, y.2 = .free → sc.names.lookup y.1 = some .cell ∨ sc.names.lookup y.1 = some .free
  par : scope.names.lookup a = some .local
theorem LamD.has {X : Cx} {scope : Scope} {a : Str} (L : LamD X.N X.env.scope scope a) (ok : X.Ok) : ∀ y ∈ scope.names, y.2 = .free → ∃ c, X.env.cells.lookup y.1 = some c := fun y hy e => ok.has y.1 (L.free y hy e)
mutual
def flaB : D → Bool
  | .non => true
  | .bl _ => true
  | .int _ => true
  | .str _ => true
  | .tup ds => flaLB ds
  | _ => false
def flaLB : List D → Bool
  | [] => true
  | d :: ds => flaB d && flaLB ds
end
/-- codes of values without lists, dicts and objects -/
def FlaE {α : Type} (f : α → D) : Prop := ∀ x, flaB (f x) = true
theorem fla_str : FlaE eZ := fun _ => rfl
def rInOwn (C : Addr) (sp : Sp) (E : XK) (f : Bool → Bool) : R2 := fun y x H Q => ∃ a dx vs, x = .ref a ∧ SlX.Slt H a C dx vs ∧ sp [x, y] H (fun z H' => ∃ b, z = .bl b ∧ Q (.bl (f b)) H') E
section
variable {X : Cx} {C g : Addr} {CX : CXT} {n : Nat} {sp : Sp} {E : XK}
theorem op_ninOwn (hs : PySem.W.findIn X.K (.ref C) "__contains__" = some (some (.ref g))) (hf : PySem.W.isFn X.K (.ref g) = true) (F : FnR X.prog X.w X.K X.mg X.base CX n g sp) (hr : Room n X.A) (hx : Passes CX X E) : OpR X (compareOp .NotIn) (rInOwn C sp E not) := by
  intro pins s σ H x y v u Q I rx ry ⟨a, dx, vs, ey, hsl, q⟩
  subst ey
  cases (show u = Value.ref a from ry)
  obtain ⟨sl, od, _, J, _⟩ := SlX.slt_inst I hsl
  obtain ⟨m, hF⟩ := I.fr
  refine PySem.W.notIn_K hF I.ok.mod.kin J hs hf (wpAny_mono (wpAny_call (run_fnR (us := [.ref a, v]) (vs := [.ref a, x]) F hr hx I (.cons rfl (.cons rx .nil)) q)) (fun w s' ⟨z', H', I', rz, b, eb, qz⟩ => ?_) fun _ _ x => x)
  subst eb
  cases (show w = Value.bool b from rz)
  exact wpAny_pure ⟨.bl (!b), H', I', rfl, qz⟩
end
theorem vw_fla {K : PySem.W.Frag} {F H : Hp} {d : D} {v : V} (hd : flaB d = true) (h : Vw K F H d v) : Rep K F d v := by
  rcases h with h | ⟨p, _, ho⟩
  · exact h
  · cases d <;> first | exact ho.elim | cases hd
section
variable {X : Cy} {C : Addr} {k j : Nat} {ps : List Str} {sp : FSp} {ds : List D} {d : D} {Q : Res → Prop}
theorem spD_bool {K : PySem.W.Frag} {F0 T F H : Hp} {G : GD} {r : Env2} {σ : L2.St} {vs : List V} {E : XK} {es : List D} (f : Bool → Bool) (S : Sta K F0 T F G H r σ) (ha : RepL K F es vs) (h : sp es G (fun z G2 => G2 = G ∧ ∃ b, z = .sh (.bl b) ∧ Q (.sh (.bl (f b)))) (fun _ _ => False)) :
    spD K sp vs H (fun v H' => ∃ b, v = .bl b ∧ ∃ x F', Ex F F' ∧ Sta K F0 T F' G H' r σ ∧ ResOk K T F' G H' r σ x (.bl (f b)) ∧ Q x) E := by
  obtain ⟨F1, G1, ds1, post, px, k1, k2, k3, k4, k5, k6, k7⟩ := spD_same (E := E) S ha h
  refine ⟨F1, G1, ds1, post, px, k1, k2, k3, k4, k5, fun x G' v' H' F' hp B rt => ?_, k7⟩
  obtain ⟨x', F'', q1, q2, q3, b, rfl, q4⟩ := k6 x G' v' H' F' hp B rt
  exact ⟨b, q3, .sh (.bl (f b)), F'', q1, q2, rfl, q4⟩
theorem opw_ninOwn (M : SpecD X.prog X.w X.K X.mg X.base C "__contains__" k ps sp) (hr : Room j X.A) (hd : flaB d = true) (h : ∀ G, sp [.ins C ds, d] G (fun z G2 => G2 = G ∧ ∃ b, z = .sh (.bl b) ∧ Q (.sh (.bl (!b)))) (fun _ _ => False)) (hj : k ≤ j := by omega) : OpW X (compareOp .NotIn) d (.ins C ds) Q := fun F0 T F G H r σ va vb S ha hb => by
  obtain ⟨g, fd, h1, h2, h3, h4⟩ := M.ex
  have rb := hb.rep_ins
  obtain ⟨ad, dx, vs, rfl, z1, z2⟩ := hb.ins S.bas.fh
  exact ⟨_, op_ninOwn (E := fun _ _ _ => False) h1 h2 (fnr h3 h4) (hr.mono hj) passF, ad, dx, vs.map some, rfl, z1, spD_bool (es := [.ins C ds, d]) (f := not) S ⟨_, _, rfl, rb, .one (vw_fla hd ha)⟩ (h G)⟩
end
mutual
def nkP : PyData → NestedKey
  | .int i => .num i
  | .bool b => .num (if b = true then 1 else 0)
  | .str x => .text x
  | .tuple ds => .tup (nkPs ds)
  | _ => .none
def nkPs : List PyData → List NestedKey
  | [] => []
  | d :: ds => nkP d :: nkPs ds
end
mutual
def nkB : PyData → Bool
  | .int _ => true
  | .bool _ => true
  | .str _ => true
  | .tuple ds => nkBs ds
  | .none => true
  | _ => false
def nkBs : List PyData → Bool
  | [] => true
  | d :: ds => nkB d && nkBs ds
end
mutual
theorem nested_of {h : Heap} : ∀ (d : PyData) {v : Value} {as : List Addr}, nkB d = true → Reads h v d as → NestedIs h (nkP d) v
  | .int i, _, _, _, .int _ t => .int i t
  | .bool b, _, _, _, .bool _ => .bool rfl
  | .str x, _, _, _, .str _ t => .text x t
  | .none, _, _, _, .none => .none
  | .tuple ds, _, _, hb, .tuple h1 h2 h3 h4 => .tup h1 h2 h3 (nested_all ds hb h4)
theorem nested_all {h : Heap} : ∀ (ds : List PyData) {vs : List Value} {as : List Addr}, nkBs ds = true → ReadsAll h vs ds as → NestedAll h (nkPs ds) vs
  | [], _, _, _, .nil => .nil
  | d :: ds, _, _, hb, .cons h1 h2 => by
    have hb : (nkB d && nkBs ds) = true := hb
    rw [Bool.and_eq_true] at hb
    exact .cons (nested_of d hb.1 h1) (nested_all ds hb.2 h2)
end
mutual
theorem nk_toP : ∀ d : D, nkP (toP d) = nkD d
  | .non => rfl
  | .bl _ => rfl
  | .int _ => rfl
  | .str _ => rfl
  | .tup ds => by show NestedKey.tup (nkPs (toPs ds)) = .tup (nkDs ds); rw [nk_toPs ds]
  | .lst _ => rfl
  | .dic _ _ => rfl
  | .ins _ _ => rfl
  | .adr _ => rfl
  | .obj _ _ _ => rfl
  | .slo _ _ _ _ => rfl
  | .xdo _ _ => rfl
  | .scr _ => rfl
  | .tab _ => rfl
  | .hob _ _ => rfl
  | .kd _ _ _ => rfl
theorem nk_toPs : ∀ ds : List D, nkPs (toPs ds) = nkDs ds
  | [] => rfl
  | d :: ds => by show nkP (toP d) :: nkPs (toPs ds) = nkD d :: nkDs ds; rw [nk_toP d, nk_toPs ds]
end
section
variable {P : Program} {w : World} {H : Hp} {h : Heap} {a p : Addr} {xs : List KdE} {k : NestedKey} {v : V}
theorem kd_ok (hk : KdAt w h a xs) : ObjOk P w H h a (KdO w a xs) := by
  have hk' := hk
  obtain ⟨h1, h2, h3, ys, o, es, ep, g0, g1, g2, g3, g4⟩ := hk'
  refine ⟨hk, ⟨o, g1⟩, fun k1 k2 ⟨q1, q2, q3, ys', o', es', ep', r0, r1, r2, r3, r4⟩ kk => ⟨q1, q2, q3, ys', o', es', ep', r0, kk _ r1, r2, r3, r4⟩⟩
theorem kd_empty (h : Heap) (hb : sysModules < h.objs.size) : ObjOk P w H (h.push { cls := .type "dict", data := .dict #[] }) h.objs.size (KdO w h.objs.size []) :=
  kd_ok ⟨beq_eq_false_iff_ne.mpr (Ne.symm (Nat.ne_of_lt hb)), Nat.zero_le _, List.nodup_nil, [], _, #[], 0, .nil, Heap.get?_push_size _ rfl, ⟨rfl, rfl, rfl⟩, rfl, rfl⟩
/-- a dict of entries that is looked at: its own object, or a locked one -/
def KdRd (w : World) (H : Hp) (a : Addr) (xs : List KdE) : Prop := H a = some (KdO w a xs) ∨ ∃ ob, H a = some (.frz ob (KdO w a xs))
theorem kd_at (hok : HOk P w H h) (he : KdRd w H a xs) : KdAt w h a xs := by
  rcases he with he | ⟨ob, he⟩
  · exact (hok a _ he).1
  · exact (hok a _ he).2.1
/-- the key of an entry, told by the ghost heap -/
def KyAt (K : PySem.W.Frag) (H : Hp) (x : KdE) : Prop := ∃ d, Dp K H (.ref x.2.1) d ∧ nkP d = x.1 ∧ nkB d = true ∧ x.1.depth ≤ 8
end
theorem KyAt.is {X : Cx} {pins : List (Addr × Obj)} {σ : L2.St} {H : Hp} {s : Shared} (I : Inv X pins σ H s) {x : KdE} (h : KyAt X.K H x) : (nestedKind X.prog X.w).is s.heap x.1 x.2.1 := by
  obtain ⟨d, h1, h2, h3, h4⟩ := h
  obtain ⟨as, hr⟩ := Dp.reads I d (.ref x.2.1) (.ref x.2.1) h1 rfl
  refine ⟨?_, h4⟩
  rw [← h2]; exact nested_of d h3 hr
theorem kdr_keys : ∀ {xs : List KdE} {ys : List (NestedKey × Addr × Value)}, Paired KdR xs ys → ys.map (·.1) = xs.map (·.1)
  | _, _, .nil => rfl
  | _, _, .cons h t => by rw [List.map_cons, List.map_cons, kdr_keys t, h.1]
theorem kdr_mem : ∀ {xs : List KdE} {ys : List (NestedKey × Addr × Value)} {y : NestedKey × Addr × Value}, Paired KdR xs ys → y ∈ ys → ∃ x ∈ xs, KdR x y
  | _, _, _, .nil, h => nomatch h
  | _, _, _, .cons h t, hy => by
    rcases List.mem_cons.mp hy with e | e
    · subst e; exact ⟨_, List.mem_cons_self, h⟩
    · obtain ⟨x, hx, hr⟩ := kdr_mem t e
      exact ⟨x, List.mem_cons_of_mem _ hx, hr⟩
/-- the dict in the heap -/
theorem kd_dict {X : Cx} {pins : List (Addr × Obj)} {σ : L2.St} {H : Hp} {s : Shared} {a : Addr} {xs : List KdE} (I : Inv X pins σ H s) (he : KdRd X.w H a xs) (hk : ∀ x ∈ xs, KyAt X.K H x) :
    (a == sysModules) = false ∧ ∃ ys, Paired KdR xs ys ∧ s.heap.DictOfH (nestedKind X.prog X.w) a ys := by
  obtain ⟨h1, h2, h3, ys, o, es, ep, g0, g1, g2, g3, g4⟩ := kd_at I.hok he
  refine ⟨h1, ys, g0, o, es, ep, g1, g2, g3, g4, fun y hy => ?_, by rw [kdr_keys g0]; exact h3⟩
  obtain ⟨x, hx, e1, e2, _⟩ := kdr_mem g0 hy
  rw [e1, e2]
  exact (hk x hx).is I
/-- a key that is there, or a new one -/
def putN (xs : List KdE) (k : NestedKey) (p : Addr) (v : V) : List KdE := if (xs.any fun x => decide (x.1 = k)) = true then xs.map (fun x => if x.1 = k then (x.1, x.2.1, v) else x) else xs ++ [(k, p, v)]
def valN (xs : List KdE) (k : NestedKey) : Option V := (xs.find? fun x => decide (x.1 = k)).map (·.2.2)
theorem kdr_any (k : NestedKey) : ∀ {xs : List KdE} {ys : List (NestedKey × Addr × Value)}, Paired KdR xs ys → (atKey ys k).isSome = xs.any fun x => decide (x.1 = k)
  | _, _, .nil => rfl
  | x :: xs, y :: ys, .cons h t => by
    have ih := kdr_any k t
    unfold atKey at ih ⊢
    rw [Option.isSome_map] at ih ⊢
    rw [List.any_cons, ← h.1]
    by_cases z : y.1 = k
    · rw [List.find?_cons_of_pos (by simpa using z)]; simp [z]
    · rw [List.find?_cons_of_neg (by simpa using z), ih]; simp [z]
theorem kdr_over {k : NestedKey} {v : V} {u : Value} (r : RelV v u) : ∀ {xs : List KdE} {ys : List (NestedKey × Addr × Value)}, Paired KdR xs ys → Paired KdR (xs.map fun x => if x.1 = k then (x.1, x.2.1, v) else x) (ys.map (putAt k u))
  | _, _, .nil => .nil
  | x :: xs, y :: ys, .cons h t => by
    refine .cons ?_ (kdr_over r t)
    unfold putAt
    dsimp only
    obtain ⟨e1, e2, e3⟩ := h
    by_cases z : x.1 = k
    · rw [if_pos z, if_pos (e1.trans z)]; exact ⟨e1, e2, r⟩
    · rw [if_neg z, if_neg (fun e => z (e1 ▸ e))]; exact ⟨e1, e2, e3⟩
theorem kdr_put {xs : List KdE} {ys : List (NestedKey × Addr × Value)} {k : NestedKey} {p : Addr} {v : V} {u : Value} (h : Paired KdR xs ys) (r : RelV v u) : Paired KdR (putN xs k p v) (storedH ys k p u) := by
  unfold putN storedH
  rw [kdr_any k h]
  by_cases z : (xs.any fun x => decide (x.1 = k)) = true
  · rw [if_pos z, if_pos z]; exact kdr_over r h
  · rw [if_neg z, if_neg z]; exact h.snoc ⟨rfl, rfl, r⟩
theorem kdr_val {k : NestedKey} : ∀ {xs : List KdE} {ys : List (NestedKey × Addr × Value)}, Paired KdR xs ys → (valN xs k = none ∧ atKey ys k = none) ∨ ∃ v q, valN xs k = some v ∧ atKey ys k = some q ∧ RelV v q.2
  | _, _, .nil => .inl ⟨rfl, rfl⟩
  | x :: xs, y :: ys, .cons h t => by
    obtain ⟨e1, e2, e3⟩ := h
    by_cases z : x.1 = k
    · right
      refine ⟨x.2.2, y.2, ?_, ?_, e3⟩
      · unfold valN; rw [List.find?_cons_of_pos (by simpa using z)]; rfl
      · unfold atKey; rw [List.find?_cons_of_pos (by simpa using e1.trans z)]; rfl
    · have ih := kdr_val (k := k) t
      unfold valN atKey at ih ⊢
      rw [List.find?_cons_of_neg (by simpa using z), List.find?_cons_of_neg (by simpa [e1] using z)]
      exact ih
theorem putN_keys {xs : List KdE} {k : NestedKey} {p : Addr} {v : V} : (putN xs k p v).map (·.1) = if (xs.any fun x => decide (x.1 = k)) = true then xs.map (·.1) else xs.map (·.1) ++ [k] := by
  unfold putN
  split
  · rw [List.map_map]; exact List.map_congr_left fun x _ => by show (if x.1 = k then (x.1, x.2.1, v) else x).1 = x.1; split <;> rfl
  · rw [List.map_append]; rfl
theorem putN_nd {xs : List KdE} {k : NestedKey} {p : Addr} {v : V} (h : (xs.map (·.1)).Nodup) : ((putN xs k p v).map (·.1)).Nodup := by
  rw [putN_keys]
  split
  · exact h
  · rename_i z
    refine List.nodup_append.mpr ⟨h, by simp, fun a ha b hb => ?_⟩
    rw [List.mem_singleton] at hb
    subst hb
    intro e
    subst e
    obtain ⟨x, hx, e⟩ := List.mem_map.mp ha
    exact z (List.any_eq_true.mpr ⟨x, hx, decide_eq_true e⟩)
theorem putN_len {xs : List KdE} {k : NestedKey} {p : Addr} {v : V} : (putN xs k p v).length ≤ xs.length + 1 := by
  unfold putN
  split
  · rw [List.length_map]; omega
  · rw [List.length_append]; simp
section
variable {X : Cx} {pins : List (Addr × Obj)} {σ : L2.St} {H : Hp} {s : Shared} {E : Value → Shared → Prop} {a p : Addr} {xs : List KdE} {k : NestedKey} {v : V} {u : Value} {A : Around}
theorem kd_new {H' : Hp} {h' : Heap} {ys : List (NestedKey × Addr × Value)} (h1 : (a == sysModules) = false) (h2 : xs.length ≤ sizeLine) (h3 : (xs.map (·.1)).Nodup) (g : Paired KdR xs ys) (dd : h'.DictOfH (nestedKind X.prog X.w) a ys) : ObjOk X.prog X.w H' h' a (KdO X.w a xs) := by
  obtain ⟨o, es, ep, r1, r2, r3, r4, _, _⟩ := dd
  exact kd_ok ⟨h1, h2, h3, ys, o, es, ep, g, r1, r2, r3, r4⟩
theorem d_kset {Q : Unit → Shared → Prop} (I : Inv X pins σ H s) (hu : A.units + 8 < cLine) (hD : H a = some (KdO X.w a xs)) (hz : xs.length < sizeLine) (hxs : ∀ x ∈ xs, KyAt X.K H x) (hk : KyAt X.K H (k, p, v)) (rv : RelV v u)
    (h : ∀ s', Inv X pins σ (upd H a (KdO X.w a (putN xs k p v))) s' → Q () s') : wpAny (model X.prog X.w) A (dictSet a (.ref p) u) Q E s := by
  obtain ⟨g1, g2, g3, _⟩ := kd_at I.hok (.inl hD)
  obtain ⟨_, ys, g0, dd⟩ := kd_dict I (.inl hD) hxs
  refine wpAny_dictSet_heap (knd := nestedKind X.prog X.w) (hsz := by rw [← Paired.length g0]; omega) hu (hk.is I) dd fun h' dd' hs => h _ ?_
  have hl := putN_len (xs := xs) (k := k) (p := p) (v := v)
  have he : ∃ q, h'.get? a = some q := let ⟨q, _, _, hq, _⟩ := dd'; ⟨q, hq⟩
  exact d_write I (by rw [hD]; exact True.intro) hs he (kd_new g1 (by omega) (putN_nd g3) (kdr_put g0 rv) dd')
theorem d_ksetI {Q : Unit → Shared → Prop} (I : Inv X pins σ H s) (hu : A.units + 9 < cLine) (hD : H a = some (KdO X.w a xs)) (hz : xs.length < sizeLine) (hxs : ∀ x ∈ xs, KyAt X.K H x) (hk : KyAt X.K H (k, p, v)) (rv : RelV v u)
    (h : ∀ s', Inv X pins σ (upd H a (KdO X.w a (putN xs k p v))) s' → Q () s') : wpAny (model X.prog X.w) A (setItem (.ref a) (.ref p) u) Q E s := by
  obtain ⟨g1, g2, g3, _⟩ := kd_at I.hok (.inl hD)
  obtain ⟨_, ys, g0, dd⟩ := kd_dict I (.inl hD) hxs
  refine wpAny_setItem_heap (knd := nestedKind X.prog X.w) (hsz := by rw [← Paired.length g0]; omega) (show A.in1.units + 8 < cLine by have : A.in1.units = A.units + 1 := rfl; omega) (hk.is I) dd fun h' dd' hs => h _ ?_
  have hl := putN_len (xs := xs) (k := k) (p := p) (v := v)
  have he : ∃ q, h'.get? a = some q := let ⟨q, _, _, hq, _⟩ := dd'; ⟨q, hq⟩
  exact d_write I (by rw [hD]; exact True.intro) hs he (kd_new g1 (by omega) (putN_nd g3) (kdr_put g0 rv) dd')
theorem d_kget {Q : Value → Shared → Prop} (I : Inv X pins σ H s) (hu : A.units + 9 < cLine) (hD : KdRd X.w H a xs) (hxs : ∀ x ∈ xs, KyAt X.K H x) {v0 : V} (hk : KyAt X.K H (k, p, v0)) (hv : valN xs k = some v)
    (h : ∀ u s', Inv X pins σ H s' → RelV v u → Q u s') : wpAny (model X.prog X.w) A (getItem (.ref a) (.ref p)) Q E s := by
  obtain ⟨_, ys, g0, dd⟩ := kd_dict I hD hxs
  rcases kdr_val (k := k) g0 with ⟨e, _⟩ | ⟨v', q, e1, e2, e3⟩
  · rw [hv] at e; cases e
  · rw [hv] at e1; cases e1
    exact wpAny_getItem_heap (knd := nestedKind X.prog X.w) (show A.in1.units + 8 < cLine by have : A.in1.units = A.units + 1 := rfl; omega) (hk.is I) dd e2 (h _ _ (I.tok _) e3)
theorem d_knin {Q : Value → Shared → Prop} (I : Inv X pins σ H s) (hu : A.units + 9 < cLine) (hD : KdRd X.w H a xs) (hxs : ∀ x ∈ xs, KyAt X.K H x) {v0 : V} (hk : KyAt X.K H (k, p, v0))
    (h : ∀ s', Inv X pins σ H s' → Q (.bool (!(valN xs k).isSome)) s') : wpAny (model X.prog X.w) A (compareOp .NotIn (.ref p) (.ref a)) Q E s := by
  obtain ⟨g1, ys, g0, dd⟩ := kd_dict I hD hxs
  refine notIn_keyed (knd := nestedKind X.prog X.w) (kvs := pairsH ys) (show A.in1.units + 8 < cLine by have : A.in1.units = A.units + 1 := rfl; omega) (hk.is I) g1 ⟨ys, dd, rfl⟩ ?_
  rw [valueAt_pairsH, Option.isSome_map]
  rcases kdr_val (k := k) g0 with ⟨e1, e2⟩ | ⟨v', q, e1, e2, _⟩
  · rw [e2, show (none : Option (Addr × Value)).isSome = (valN xs k).isSome by rw [e1]; rfl]; exact h _ (I.tok _)
  · rw [e2, show (some q).isSome = (valN xs k).isSome by rw [e1]; rfl]; exact h _ (I.tok _)
theorem d_kget2 {Q : Value → Shared → Prop} (I : Inv X pins σ H s) (hu : A.units + 9 < cLine) (hD : KdRd X.w H a xs) (hxs : ∀ x ∈ xs, KyAt X.K H x) {v0 d : V} {r : Value} (hk : KyAt X.K H (k, p, v0)) (rd : RelV d r)
    (h : ∀ u s', Inv X pins σ H s' → RelV ((valN xs k).getD d) u → Q u s') : wpAny (model X.prog X.w) A (call (.builtin "dict.get") [.ref a, .ref p, r]) Q E s := by
  obtain ⟨g1, ys, g0, dd⟩ := kd_dict I hD hxs
  refine getOr_keyed (knd := nestedKind X.prog X.w) (kvs := pairsH ys) (show A.in1.units + 8 < cLine by have : A.in1.units = A.units + 1 := rfl; omega) (hk.is I) g1 ⟨ys, dd, rfl⟩ ?_
  rw [valueAt_pairsH]
  refine h _ _ (I.tok _) ?_
  rcases kdr_val (k := k) g0 with ⟨e1, e2⟩ | ⟨v', q, e1, e2, e3⟩
  · rw [e1, e2]; exact rd
  · rw [e1, e2]; exact e3
end
/-- what the dict is at first, and what a store in it asks and leaves -/
structure DSt (X : Cx) (o0 : Addr → HO) (stp : Addr → V → V → Hp → (Hp → Prop) → Prop) : Prop where
  new : ∀ (H : Hp) (h : Heap), sysModules < h.objs.size → ObjOk X.prog X.w H (h.push { cls := .type "dict", data := .dict #[] }) h.objs.size (o0 h.objs.size)
  put : ∀ (Y : Cx) (pins : List (Addr × Obj)) (σ : L2.St) (H : Hp) (s : Shared) (D : Addr) (y z : V) (u r : Value) (N : Hp → Prop) (Q : Unit → Shared → Prop) (E : Value → Shared → Prop), Y.prog = X.prog → Y.w = X.w → Y.K = X.K → Y.A.units = X.A.units → Inv Y pins σ H s → stp D y z H N → RelV y u → RelV z r →
    (∀ s' H', Inv Y pins σ H' s' → N H' → Q () s') → wpAny (model Y.prog Y.w) Y.A (dictSet D u r) Q E s
def tDcG (o0 : Addr → HO) (stp : Addr → V → V → Hp → (Hp → Prop) → Prop) (wi : TI) (g : TG) (tt : TT) (tk tv : TE) (vs : List Nat) : TE := fun σ H Q => wi σ H fun J H1 => ∀ D, H1 D = none → ∃ W : Nat → Nat → Hp → Prop, (∃ m, W 0 m (upd H1 D (o0 D))) ∧ ∀ i m H, W i m H →
  (J.stop i H ∧ Q (.ref D) H) ∨ (J.go i H ∧ ∃ Nx : Hp → Prop, (∀ H', Nx H' → ∃ m', m' < m ∧ W (i + 1) m' H') ∧ ∀ x H', J.yld i H x H' → g x (wipe σ vs) H' fun σ2 H2 => wipe σ2 vs = wipe σ vs ∧ tt σ2 H2 fun b H3 =>
    if b = true then tk σ2 H3 fun y H4 => tv σ2 H4 fun z H5 => stp D y z H5 Nx else Nx H3)
section
variable {X : Cx} {o0 : Addr → HO} {stp : Addr → V → V → Hp → (Hp → Prop) → Prop} {kx vx tg iter : Expr} {ifs : List Expr} {scope : Scope} {own : List (Str × Nat)} {pos pos' : Pos} {wi : TI} {g : TG} {tt : TT} {tk tv : TE}
/-- the readings of the parts, in every block -/
structure DParts (X : Cx) (scope : Scope) (tg kx vx : Expr) (ifs : List Expr) (g : TG) (tt : TT) (tk tv : TE) : Prop where
  g : ∀ (s : Shared) (H : Hp) (C : Addr) (cl : List (Str × Addr)) (fp : List Addr), PG (X.blk s H scope (compEnvC scope cl C X.env) fp) tg g
  t : ∀ (s : Shared) (H : Hp) (C : Addr) (cl : List (Str × Addr)) (fp : List Addr), PTs (X.blk s H scope (compEnvC scope cl C X.env) fp) ifs tt
  k : ∀ (s : Shared) (H : Hp) (C : Addr) (cl : List (Str × Addr)) (fp : List Addr), PE (X.blk s H scope (compEnvC scope cl C X.env) fp) kx tk
  v : ∀ (s : Shared) (H : Hp) (C : Addr) (cl : List (Str × Addr)) (fp : List Addr), PE (X.blk s H scope (compEnvC scope cl C X.env) fp) vx tv
theorem dcg_core {pins : List (Addr × Obj)} {s : Shared} {σ : L2.St} {H : Hp} {Q : VK} {use : Option (Value → Sem Unit)} {Qf : Value → Shared → Prop} (O : DSt X o0 stp) (hc : X.calm = true) (hN : X.N.Nodup) (I : Inv X pins σ H s) (hi : PI X tg iter wi) (ok : BlkOk X.N X.env.scope scope own) (B : DParts X scope tg kx vx ifs g tt tk tv)
    (hs : ∀ x, foldedSetIterable iter X.env x = pure x) (h : tDcG o0 stp wi g tt tk tv (own.map (·.2)) σ H Q)
    (hfin : ∀ D C s' m H', Inv X pins σ H' s' → Q (.ref D) H' → s'.heap.Ns C m → FpOk X pins H' C → compPost (model X.prog X.w) X.A X.xe use Qf (.ref D) C (.ok .next) s') :
    wpAny (model X.prog X.w) X.A (comprehension (.DictComp kx vx [⟨tg, iter, ifs, 0⟩] scope pos) scope X.env pos' newDict false (eval iter X.env) use) Qf X.xe s := by
  have free : ∀ y ∈ scope.names, y.2 = .free → ∃ c, X.env.cells.lookup y.1 = some c := fun y hy e => (ok.free y hy e).elim (fun q => I.ok.has _ (.inl q)) fun q => I.ok.has _ (.inr q)
  refine wpAny_comprehension_free (use := use) rfl hs (closure_ok free) ok.kind (fun y hy e => by rw [ok.uniq y hy, e]) ?_
  refine thn (hi.run pins s σ H _ I h) fun xv s1 hx => thn hx fun itv s2 hit => ?_
  obtain ⟨it, fp, tn, J, H2, rfl, I2, T, st2, f2, q⟩ := hit
  refine wpAny_newObj_type (newEnv_comp ?_)
  obtain ⟨D, hD⟩ : ∃ D, s2.heap.objs.size = D := ⟨_, rfl⟩
  rw [hD]
  have hDn : H2 D = none := I2.hok.fresh (Nat.le_of_eq hD)
  obtain ⟨W, ⟨m0, w0⟩, turn⟩ := q D hDn
  obtain ⟨s3, hs3⟩ : ∃ s3 : Shared, ({ s2 with heap := s2.heap.push { cls := .type "dict", data := .dict #[] } } : Shared) = s3 := ⟨_, rfl⟩
  rw [hs3]
  have h3 : s3.heap = s2.heap.push { cls := .type "dict", data := .dict #[] } := by rw [← hs3]
  have I3 : Inv X pins σ (upd H2 D (o0 D)) s3 := by
    rw [← hs3]
    refine I2.laid (t' := s2.toks) (fun b o z => Heap.get?_push_of_some _ z) (Nat.le_of_eq hD) ?_
    rw [← hD]; exact O.new _ s2.heap I2.big
  have young : ∀ b ∈ fp, b < s2.heap.objs.size := fun b hb => let ⟨o, e, _⟩ := T.obj _ _ st2 b hb; Heap.lt_size e
  have f3 : ∀ b ∈ fp, FpOk X pins (upd H2 D (o0 D)) b ∧ b < s3.heap.objs.size := fun b hb => by
    refine ⟨⟨?_, (f2 b hb).2⟩, by rw [h3, Heap.size_push]; exact Nat.lt_succ_of_lt (young b hb)⟩
    rw [upd_ne (by rw [← hD]; exact Nat.ne_of_lt (young b hb))]; exact (f2 b hb).1
  have st3 : tn 0 s3.heap := T.keep _ _ _ st2 fun b _ o z => by rw [h3]; exact Heap.get?_push_of_some _ z
  have I4 := block_start I3 ok hN f3
  obtain ⟨cl, hcl⟩ : ∃ cl, cellsFrom (s3.heap.objs.size + 1) scope.names (cloFrom X.env.cells scope.names []) = cl := ⟨_, rfl⟩
  have pg := B.g s3 (upd H2 D (o0 D)) s3.heap.objs.size cl fp
  have pt := B.t s3 (upd H2 D (o0 D)) s3.heap.objs.size cl fp
  have pk := B.k s3 (upd H2 D (o0 D)) s3.heap.objs.size cl fp
  have pv := B.v s3 (upd H2 D (o0 D)) s3.heap.objs.size cl fp
  change codeAny _ _ (.compStart _ 0 (.ref it) (.ref D) (compEnvC scope (cellsFrom (s3.heap.objs.size + 1) scope.names (cloFrom X.env.cells scope.names [])) s3.heap.objs.size X.env)) (compPost _ _ _ _ _ _ s3.heap.objs.size) { s3 with heap := pushCells (s3.heap.push { cls := .type "dict", data := .dict #[] }) scope.names }
  rw [hcl] at I4
  rw [hcl]
  have nfp : ∀ b ∈ fp, (upd H2 D (o0 D)) b = none := fun b hb => (f3 b hb).1.1
  obtain ⟨ce, hce⟩ : ∃ ce, compEnvC scope cl s3.heap.objs.size X.env = ce := ⟨_, rfl⟩
  rw [hce] at I4 pg pt pk pv
  rw [hce]
  have cL : ce.locals = s3.heap.objs.size := by rw [← hce]; rfl
  obtain ⟨s4, hs4⟩ : ∃ s4 : Shared, ({ s3 with heap := pushCells (s3.heap.push { cls := .type "dict", data := .dict #[] }) scope.names } : Shared) = s4 := ⟨_, rfl⟩
  rw [hs4] at I4
  have st4 : tn 0 s4.heap := T.keep _ _ _ st3 fun b _ o z => by rw [← hs4]; exact pushCells_keeps _ _ _ _ (Heap.get?_push_of_some _ z)
  obtain ⟨Z, hZ⟩ : ∃ Z : Cx, X.blk s3 (upd H2 D (o0 D)) scope ce fp = Z := ⟨_, rfl⟩
  have zp : Z.prog = X.prog := by rw [← hZ]
  have zw : Z.w = X.w := by rw [← hZ]
  have zK : Z.K = X.K := by rw [← hZ]
  have zA : Z.A = X.A := by rw [← hZ]
  have zc : Z.calm = X.calm := by rw [← hZ]
  have stat : ∀ {σ' : L2.St} {H' : Hp} {s' : Shared}, Inv Z [] σ' H' s' → (∀ b ∈ fp, H' b = none) → ∀ b ∈ fp, FpOk Z [] H' b := fun {σ' H' s'} I' hn b hb => by
    subst hZ
    exact ⟨hn b hb, (I'.ok.exf b hb).1, I'.ok.exfs b hb, .inl hb, fun x c e => (I'.ok.exf b hb).2 x c e, fun p hp => by cases (show p ∈ ([] : List (Addr × Obj)) ++ [] from hp)⟩
  have back : ∀ {H' : Hp} {s' : Shared} {σ' : L2.St}, Inv Z [] σ' H' s' → Inv X pins σ H' s' := fun {H' s' σ'} I' => by
    subst hZ
    exact I3.call' (ch := fp) I'.os I'.base I'.hok I'.bare fun b hb => let z := (f3 b hb).1.2; ⟨z.2.2.1, z.1, z.2.2.2.1, z.2.2.2.2⟩
  have loop : codeAny (model X.prog X.w) X.A (.compLoop (.DictComp kx vx [⟨tg, iter, ifs, 0⟩] scope pos) 0 (.ref it) (.ref D) ce) (compPost (model X.prog X.w) X.A X.xe use Qf (.ref D) s3.heap.objs.size) s4 := by
    refine compLoop_anyD (fun n s' => ∃ i H', Inv Z [] (wipe σ (own.map (·.2))) H' s' ∧ tn i s'.heap ∧ (∀ b ∈ fp, H' b = none) ∧ W i n H') ?_ m0 ⟨0, _, by subst hZ; exact I4, st4, nfp, w0⟩
    rintro n s5 ⟨i, H5, I5, st5, n5, w5⟩
    rcases turn i n H5 w5 with ⟨stop, qq⟩ | ⟨go, Nx, hNx, step⟩
    · have td := T.done Z zp zw zK (zc.trans hc) i [] s5 _ H5 (fun _ _ => False) I5 (stat I5 n5) st5 stop
      rw [zA] at td
      refine thnF td fun r s6 ⟨hr, I6⟩ => ?_
      subst hr
      have nC : H5 s3.heap.objs.size = none := by
        have z : H5 Z.env.locals = none := I6.free
        rwa [← hZ, show (X.blk s3 (upd H2 D (o0 D)) scope ce fp).env.locals = s3.heap.objs.size from cL] at z
      obtain ⟨m, hn, _⟩ := I6.loc
      have hn' : s6.heap.Ns Z.env.locals m := hn
      rw [← hZ, show (X.blk s3 (upd H2 D (o0 D)) scope ce fp).env.locals = s3.heap.objs.size from cL] at hn'
      exact hfin D s3.heap.objs.size s6 m H5 (back I6) qq hn' (I3.fpOk (Nat.le_refl _) nC)
    · have ti := T.item Z zp zw zK (zc.trans hc) i [] s5 _ H5 (fun _ _ => False) I5 (stat I5 n5) st5 go
      rw [zA] at ti
      refine thnF ti fun r s6 ⟨u, hr, h6⟩ => ?_
      subst hr
      refine thnF h6 fun _ s7 ⟨x, H7, I7, r7, y7, st7, n7⟩ => ?_
      have I7' := I7.pinned (stat I7 n7) (T.obj _ _ st7)
      have leave : ∀ {s' : Shared} {H' : Hp} {σ8 : L2.St}, wipe σ8 (own.map (·.2)) = wipe σ (own.map (·.2)) → Inv Z ([] ++ pinsAt fp s7.heap) σ8 H' s' → Nx H' → ∃ m, m < n ∧ ∃ i H', Inv Z [] (wipe σ (own.map (·.2))) H' s' ∧ tn i s'.heap ∧ (∀ b ∈ fp, H' b = none) ∧ W i m H' := fun {s' H' σ8} hw I' nx => by
        obtain ⟨m', hm, w'⟩ := hNx H' nx
        have same : ∀ b ∈ fp, ∀ o, s7.heap.get? b = some o → s'.heap.get? b = some o ∧ H' b = none := fun b hb o e =>
          let z := I'.pin (b, o) (List.mem_append_right _ (List.mem_append_right _ (mem_pinsAt hb e))); ⟨z.1, z.2.1⟩
        refine ⟨m', hm, i + 1, H', (I'.unpinned (pins := [])).weak (by rw [← hw, wipe_length]) (fun j v e => by rw [← hw] at e; exact (wipe_some e).1), ?_, fun b hb => ?_, w'⟩
        · exact T.keep _ _ _ st7 fun b hb o e => (same b hb o e).1
        · obtain ⟨o, e, _⟩ := T.obj _ _ st7 b hb
          exact (same b hb o e).2
      have hg := pg.run _ s7 _ H7 x u _ (by subst hZ; exact I7') r7 (step x H7 y7)
      refine thnF hg fun _ s8 ⟨σ8, H8, I8, hw8, q8⟩ => ?_
      refine thnF (pt.run _ s8 σ8 H8 _ I8 q8) fun b s9 ⟨H9, I9, q9⟩ => ?_
      cases b with
      | false =>
        rw [if_neg Bool.false_ne_true] at q9
        rw [if_neg Bool.false_ne_true]
        exact leave hw8 (by subst hZ; exact I9) q9
      | true =>
        rw [if_pos rfl] at q9
        rw [if_pos rfl]
        refine thnF (pk.run _ s9 σ8 H9 _ I9 q9) fun ku s10 ⟨ky, H10, I10, r10, q10⟩ => thnF (pv.run _ s10 σ8 H10 _ I10 q10) fun vu s11 ⟨vy, H11, I11, r11, hst⟩ => ?_
        exact O.put (X.blk s3 (upd H2 D (o0 D)) scope ce fp) _ _ _ _ _ _ _ _ _ _ _ _ rfl rfl rfl rfl I11 hst r10 r11 fun s' H' I' nx => leave hw8 (by subst hZ; exact I') nx
  subst hs4
  exact codeAny_compStart_dict loop (T.self X.A 0 _ _ _ st4 loop)
/-- y = {k: v for ..} on one line -/
theorem ps_setDcG {i : Nat} {y : Str} {py spos : Pos} (O : DSt X o0 stp) (hc : X.calm = true) (hN : X.N.Nodup) (hy : X.N[i]? = some y) (hyl : X.env.scope.names.lookup y = some .local)
    (hsw : swapsWith (.DictComp kx vx [⟨tg, iter, ifs, 0⟩] scope pos) (some (.Name y py)) spos.line X.env = pure true) (hi : PI X tg iter wi) (ok : BlkOk X.N X.env.scope scope own) (B : DParts X scope tg kx vx ifs g tt tk tv) (hs : ∀ x, foldedSetIterable iter X.env x = pure x) :
    PS X (.Assign [.Name y py] (.DictComp kx vx [⟨tg, iter, ifs, 0⟩] scope pos) spos) (tAsg (tDcG o0 stp wi g tt tk tv (own.map (·.2))) (gName i)) := ⟨fun pins s σ H D I h => by
  rw [exec_Assign_Name_used _ _ _ _ hsw]
  refine wpAny_bind (wpAny_standAt (wpAny_bind ?_))
  show wpAny _ X.A (do let _ ← comprehension (.DictComp kx vx [⟨tg, iter, ifs, 0⟩] scope pos) scope X.env (firstIterPos [⟨tg, iter, ifs, 0⟩] pos) newDict false (eval iter X.env) (some (assign (.Name y py) X.env))) _ _ s
  have hh : tDcG o0 stp wi g tt tk tv (own.map (·.2)) σ H (fun x H1 => gName i x σ H1 D.nx) := h
  refine wpAny_bind (thn (dcg_core (Qf := fun _ s' => SP X pins D .next s') O hc hN I hi ok B hs hh fun L C s' m H' I' q hn f => ?_) fun _ s' hq => wpAny_pure (wpAny_pure hq))
  show wpAny _ _ (assign (.Name y py) X.env (.ref L)) _ _ _
  refine wpAny_assign_Name (store_ok2 (v := V.ref L) I' hN hy (.inl hyl) rfl (fun s2 I2 ⟨a, sb, ha⟩ => ⟨m, hn.sameBut sb (ha.elim (fun z => z ▸ f.2.1) fun z e => f.2.2.2.2.1 y a z e.symm), fun h3 sb3 => ⟨_, H', ?_, q⟩⟩) (.inr hyl))
  exact I2.turned (t' := s2.toks) (fun b o hb e => (sb3.2 b hb).trans e) f.1 f.2.1 f.2.2.2.1 f.2.2.2.2.1 f.2.2.2.2.2⟩
end
def KRep (K : PySem.W.Frag) (F : Hp) : List (D × D) → List KdE → Prop
  | [], us => us = []
  | p :: acc, us => ∃ u us', us = u :: us' ∧ u.1 = nkD p.1 ∧ Rep K F p.1 (.ref u.2.1) ∧ Rep K F p.2 u.2.2 ∧ KRep K F acc us'
def kdD (w : World) (acc : List (D × D)) : D := .kd w (acc.map (·.1)) (acc.map (·.2))
structure KyD (d : D) : Prop where
  ok : ∃ n, okD n d
  nb : nkB (toP d) = true
  dp : (nkD d).depth ≤ 8
section
variable {K : PySem.W.Frag} {F F' H : Hp} {w : World}
theorem KRep.mono (e : Ex F F') : ∀ {acc : List (D × D)} {us : List KdE}, KRep K F acc us → KRep K F' acc us
  | [], _, h => h
  | p :: acc, _, ⟨u, us', h1, h2, h3, h4, h5⟩ => ⟨u, us', h1, h2, Rep.mono e _ _ h3, Rep.mono e _ _ h4, h5.mono e⟩
theorem KRep.length : ∀ {acc : List (D × D)} {us : List KdE}, KRep K F acc us → us.length = acc.length
  | [], _, h => by rw [show _ = [] from h]; rfl
  | p :: acc, _, ⟨u, us', h1, _, _, _, h5⟩ => by rw [h1, List.length_cons, List.length_cons, h5.length]
theorem KRep.own : ∀ {acc : List (D × D)} {us : List KdE}, KRep K F acc us → us.map (·.1) = nkDs (acc.map (·.1)) ∧ RepL K F (acc.map (·.1)) (us.map fun e => .ref e.2.1) ∧ RepL K F (acc.map (·.2)) (us.map (·.2.2))
  | [], _, h => by rw [show _ = [] from h]; exact ⟨rfl, rfl, rfl⟩
  | p :: acc, _, ⟨u, us', h1, h2, h3, h4, h5⟩ => by
    subst h1
    obtain ⟨z1, z2, z3⟩ := h5.own
    refine ⟨?_, ⟨_, _, rfl, h3, z2⟩, ⟨_, _, rfl, h4, z3⟩⟩
    show u.1 :: us'.map (·.1) = nkD p.1 :: nkDs (acc.map (·.1))
    rw [h2, z1]
theorem KRep.of : ∀ {acc : List (D × D)} {us : List KdE}, us.map (·.1) = nkDs (acc.map (·.1)) → RepL K F (acc.map (·.1)) (us.map fun e => .ref e.2.1) → RepL K F (acc.map (·.2)) (us.map (·.2.2)) → KRep K F acc us
  | [], us, h, _, _ => by cases us with | nil => rfl | cons u us => cases h
  | p :: acc, us, h, h2, h3 => by
    cases us with
    | nil => cases h
    | cons u us =>
      have h' : u.1 :: us.map (·.1) = nkD p.1 :: nkDs (acc.map (·.1)) := h
      injection h' with e1 e2
      obtain ⟨v, r, z1, z2, z3⟩ := h2
      obtain ⟨v', r', y1, y2, y3⟩ := h3
      injection z1 with z4 z5
      injection y1 with y4 y5
      subst z4 z5 y4 y5
      exact ⟨u, us, rfl, e1, z2, y2, KRep.of e2 z3 y3⟩
theorem own_kdD {p : Addr} {acc : List (D × D)} {us : List KdE} (h : KRep K F acc us) (hp : H p = some (KdO w p us)) : Own K F H p (kdD w acc) := by
  obtain ⟨z1, z2, z3⟩ := h.own
  exact ⟨us, hp, z1, z2, z3⟩
theorem kdD_own {p : Addr} {acc : List (D × D)} (h : Own K F H p (kdD w acc)) : ∃ us, KRep K F acc us ∧ H p = some (KdO w p us) := by
  obtain ⟨us, hp, z1, z2, z3⟩ := h
  exact ⟨us, KRep.of z1 z2 z3, hp⟩
theorem kdD_vw (ex : Ex F H) {acc : List (D × D)} {v : V} (h : Vw K F H (kdD w acc) v) : ∃ p us, v = .ref p ∧ KRep K F acc us ∧ KdRd w H p us := by
  rcases h with ⟨a, ob, es, h1, h2, h3, h4, h5⟩ | ⟨p, h1, h2⟩
  · exact ⟨a, es, h1, KRep.of h3 h4 h5, .inr ⟨ob, ex _ _ h2⟩⟩
  · obtain ⟨us, h3, h4⟩ := kdD_own h2
    exact ⟨p, us, h1, h3, .inl h4⟩
theorem ky_at (ex : Ex F H) {d : D} {p : Addr} {v : V} (hd : KyD d) (h : Rep K F d (.ref p)) : KyAt K H (nkD d, p, v) := by
  obtain ⟨n, hn⟩ := hd.ok
  exact ⟨toP d, okD.dp ex n _ _ hn (.inl h), nk_toP d, hd.nb, hd.dp⟩
theorem KRep.ky (ex : Ex F H) : ∀ {acc : List (D × D)} {us : List KdE}, KRep K F acc us → (∀ p ∈ acc, KyD p.1) → ∀ x ∈ us, KyAt K H x
  | [], _, h, _, x, hx => by rw [show _ = [] from h] at hx; cases hx
  | p :: acc, _, ⟨u, us', h1, h2, h3, h4, h5⟩, hk, x, hx => by
    subst h1
    rcases List.mem_cons.mp hx with e | e
    · subst e
      have z : KyAt K H (nkD p.1, x.2.1, x.2.2) := ky_at ex (hk p List.mem_cons_self) h3
      rw [← h2] at z
      exact z
    · exact h5.ky ex (fun q hq => hk q (List.mem_cons_of_mem _ hq)) x e
end
def putKD (acc : List (D × D)) (k d : D) : List (D × D) := if (acc.any fun kv => decide (nkD kv.1 = nkD k)) = true then acc.map (fun kv => if nkD kv.1 = nkD k then (kv.1, d) else kv) else acc ++ [(k, d)]
def valKD (acc : List (D × D)) (k : D) : Option D := (acc.find? fun kv => decide (nkD kv.1 = nkD k)).map (·.2)
section
variable {K : PySem.W.Frag} {F F' H : Hp} {w : World} {k d : D} {p : Addr} {v : V}
theorem KRep.any (k : D) : ∀ {acc : List (D × D)} {us : List KdE}, KRep K F acc us → (us.any fun x => decide (x.1 = nkD k)) = acc.any fun kv => decide (nkD kv.1 = nkD k)
  | [], _, h => by rw [show _ = [] from h]; rfl
  | q :: acc, _, ⟨u, us', h1, h2, _, _, h5⟩ => by subst h1; rw [List.any_cons, List.any_cons, h5.any k, h2]
theorem KRep.over (hv : Rep K F d v) : ∀ {acc : List (D × D)} {us : List KdE}, KRep K F acc us → KRep K F (acc.map fun kv => if nkD kv.1 = nkD k then (kv.1, d) else kv) (us.map fun x => if x.1 = nkD k then (x.1, x.2.1, v) else x)
  | [], _, h => by rw [show _ = [] from h]; rfl
  | q :: acc, _, ⟨u, us', h1, h2, h3, h4, h5⟩ => by
    subst h1
    refine ⟨_, _, List.map_cons, ?_, ?_, ?_, h5.over hv⟩ <;> dsimp only <;> rw [h2] <;> by_cases z : nkD q.1 = nkD k
    · rw [if_pos z, if_pos z]
    · rw [if_neg z, if_neg z]; exact h2
    · rw [if_pos z, if_pos z]; exact h3
    · rw [if_neg z, if_neg z]; exact h3
    · rw [if_pos z, if_pos z]; exact hv
    · rw [if_neg z, if_neg z]; exact h4
theorem KRep.append : ∀ {acc bcc : List (D × D)} {us ws : List KdE}, KRep K F acc us → KRep K F bcc ws → KRep K F (acc ++ bcc) (us ++ ws)
  | [], _, _, _, h, h' => by rw [show _ = [] from h]; exact h'
  | q :: acc, _, _, _, ⟨u, us', h1, h2, h3, h4, h5⟩, h' => by subst h1; exact ⟨u, us' ++ _, rfl, h2, h3, h4, h5.append h'⟩
theorem KRep.put {acc : List (D × D)} {us : List KdE} (h : KRep K F acc us) (hk : Rep K F k (.ref p)) (hv : Rep K F d v) : KRep K F (putKD acc k d) (putN us (nkD k) p v) := by
  unfold putKD putN
  rw [h.any k]
  by_cases z : (acc.any fun kv => decide (nkD kv.1 = nkD k)) = true
  · rw [if_pos z, if_pos z]; exact h.over hv
  · rw [if_neg z, if_neg z]; exact h.append ⟨(nkD k, p, v), [], rfl, rfl, hk, hv, rfl⟩
theorem KRep.val (k : D) : ∀ {acc : List (D × D)} {us : List KdE}, KRep K F acc us → (valKD acc k = none ∧ valN us (nkD k) = none) ∨ ∃ d v, valKD acc k = some d ∧ valN us (nkD k) = some v ∧ Rep K F d v
  | [], _, h => by rw [show _ = [] from h]; exact .inl ⟨rfl, rfl⟩
  | q :: acc, _, ⟨u, us', h1, h2, h3, h4, h5⟩ => by
    subst h1
    by_cases z : nkD q.1 = nkD k
    · right
      refine ⟨q.2, u.2.2, ?_, ?_, h4⟩
      · unfold valKD; rw [List.find?_cons_of_pos (by simpa using z)]; rfl
      · unfold valN; rw [List.find?_cons_of_pos (by simpa [h2] using z)]; rfl
    · have ih := KRep.val k h5
      unfold valKD valN at ih ⊢
      rw [List.find?_cons_of_neg (by simpa using z), List.find?_cons_of_neg (by simpa [h2] using z)]
      exact ih
end
/-- parts of keys -/
structure KyE {α : Type} (f : α → D) (n : Nat) : Prop where
  ok : ∀ a, okD n (f a)
  nb : ∀ a, nkB (toP (f a)) = true
  dp : ∀ a, (nkD (f a)).depth ≤ n
  inj : ∀ a b, nkD (f a) = nkD (f b) → a = b
section
variable {α β γ : Type}
theorem kye_int : KyE eI 0 := ⟨fun _ => trivial, fun _ => rfl, fun a => (by show NestedKey.depth (.num a) ≤ 0; simp [NestedKey.depth]), fun a b h => by injection (show NestedKey.num a = .num b from h)⟩
theorem kye_bool : KyE eB 0 := ⟨fun _ => trivial, fun _ => rfl, fun a => (by show NestedKey.depth (.num _) ≤ 0; simp [NestedKey.depth]), fun a b h => by
  have h' : NestedKey.num (if a = true then 1 else 0) = .num (if b = true then 1 else 0) := h
  injection h' with e
  cases a <;> cases b <;> first | rfl | cases e⟩
theorem kye_str : KyE eZ 0 := ⟨fun a => eqc_str.ok a, fun _ => rfl, fun a => (by show NestedKey.depth (.text _) ≤ 0; simp [NestedKey.depth]), fun a b h => by
  have h' : NestedKey.text a.1 = .text b.1 := h
  injection h' with e
  exact Subtype.ext e⟩
theorem KyE.up {f : α → D} {n m : Nat} (h : KyE f n) (hm : n ≤ m) : KyE f m := ⟨fun a => okD_mono (h.ok a) hm, h.nb, fun a => Nat.le_trans (h.dp a) hm, h.inj⟩
theorem kye_pair {f : α → D} {g : β → D} {n : Nat} (h : KyE f n) (k : KyE g n) : KyE (eP f g) (n + 1) := by
  refine ⟨fun a d hd => ?_, fun a => ?_, fun a => ?_, fun a b e => ?_⟩
  · rcases List.mem_cons.mp hd with z | z
    · subst z; exact h.ok _
    · cases List.mem_singleton.mp z; exact k.ok _
  · show (nkB (toP (f a.1)) && (nkB (toP (g a.2)) && true)) = true
    rw [h.nb, k.nb]; rfl
  · show NestedKey.depth (.tup [nkD (f a.1), nkD (g a.2)]) ≤ n + 1
    have h1 := h.dp a.1
    have h2 := k.dp a.2
    simp [NestedKey.depth, NestedKey.depthAll]; omega
  · have e' : NestedKey.tup [nkD (f a.1), nkD (g a.2)] = .tup [nkD (f b.1), nkD (g b.2)] := e
    injection e' with e1
    injection e1 with e2 e3
    injection e3 with e4 _
    exact Prod.ext (h.inj _ _ e2) (k.inj _ _ e4)
theorem kye_trip {f : α → D} {g : β → D} {q : γ → D} {n : Nat} (h : KyE f n) (k : KyE g n) (l : KyE q n) : KyE (eP3 f g q) (n + 1) := by
  refine ⟨fun a d hd => ?_, fun a => ?_, fun a => ?_, fun a b e => ?_⟩
  · rcases List.mem_cons.mp hd with z | z
    · subst z; exact h.ok _
    · rcases List.mem_cons.mp z with z | z
      · subst z; exact k.ok _
      · cases List.mem_singleton.mp z; exact l.ok _
  · show (nkB (toP (f a.1)) && (nkB (toP (g a.2.1)) && (nkB (toP (q a.2.2)) && true))) = true
    rw [h.nb, k.nb, l.nb]; rfl
  · show NestedKey.depth (.tup [nkD (f a.1), nkD (g a.2.1), nkD (q a.2.2)]) ≤ n + 1
    have h1 := h.dp a.1
    have h2 := k.dp a.2.1
    have h3 := l.dp a.2.2
    simp [NestedKey.depth, NestedKey.depthAll]; omega
  · have e' : NestedKey.tup [nkD (f a.1), nkD (g a.2.1), nkD (q a.2.2)] = .tup [nkD (f b.1), nkD (g b.2.1), nkD (q b.2.2)] := e
    injection e' with e1
    injection e1 with e2 e3
    injection e3 with e4 e5
    injection e5 with e6 _
    exact Prod.ext (h.inj _ _ e2) (Prod.ext (k.inj _ _ e4) (l.inj _ _ e6))
theorem kye_all {f : α → D} {n : Nat} (h : KyE f n) : ∀ xs : List α, nkBs (toPs (xs.map f)) = true ∧ NestedKey.depthAll (nkDs (xs.map f)) ≤ n
  | [] => ⟨rfl, by simp [nkDs, NestedKey.depthAll]⟩
  | x :: xs => by
    obtain ⟨h1, h2⟩ := kye_all h xs
    refine ⟨?_, ?_⟩
    · show (nkB (toP (f x)) && nkBs (toPs (xs.map f))) = true
      rw [h.nb, h1]; rfl
    · show NestedKey.depthAll (nkD (f x) :: nkDs (xs.map f)) ≤ n
      have := h.dp x
      simp [NestedKey.depthAll]; omega
theorem kye_inj {f : α → D} {n : Nat} (h : KyE f n) : ∀ xs ys : List α, nkDs (xs.map f) = nkDs (ys.map f) → xs = ys
  | [], [], _ => rfl
  | [], y :: ys, e => by cases e
  | x :: xs, [], e => by cases e
  | x :: xs, y :: ys, e => by
    have e' : nkD (f x) :: nkDs (xs.map f) = nkD (f y) :: nkDs (ys.map f) := e
    injection e' with e1 e2
    rw [h.inj _ _ e1, kye_inj h xs ys e2]
theorem kye_tup {f : α → D} {n : Nat} (h : KyE f n) : KyE (eT f) (n + 1) := by
  refine ⟨fun a d hd => ?_, fun a => (kye_all h a).1, fun a => ?_, fun a b e => ?_⟩
  · obtain ⟨x, _, rfl⟩ := List.mem_map.mp hd
    exact h.ok x
  · show NestedKey.depth (.tup (nkDs (a.map f))) ≤ n + 1
    have := (kye_all h a).2
    simp [NestedKey.depth]; omega
  · have e' : NestedKey.tup (nkDs (a.map f)) = .tup (nkDs (b.map f)) := e
    injection e' with e1
    exact kye_inj h _ _ e1
end
structure KyC {κ : Type} (ek : κ → D) : Prop where
  ky : ∀ a, KyD (ek a)
  tp : ∀ a, ∃ ds, ek a = .tup ds
  inj : ∀ a b, nkD (ek a) = nkD (ek b) → a = b
theorem kyc_of {κ : Type} {ek : κ → D} {n : Nat} (h : KyE ek n) (tp : ∀ a, ∃ ds, ek a = .tup ds) (hn : n ≤ 8 := by decide) : KyC ek := ⟨fun a => ⟨⟨n, h.ok a⟩, h.nb a, Nat.le_trans (h.dp a) hn⟩, tp, h.inj⟩
/-- the code of a dict whose keys are tuples -/
abbrev eKd (w : World) {κ ν : Type} (ek : κ → D) (ev : ν → D) : List (κ × ν) → D := fun kvs => .kd w (kvs.map fun p => ek p.1) (kvs.map fun p => ev p.2)
def eKl {κ ν : Type} (ek : κ → D) (ev : ν → D) (kvs : List (κ × ν)) : List (D × D) := kvs.map fun p => (ek p.1, ev p.2)
theorem eKd_kdD (w : World) {κ ν : Type} (ek : κ → D) (ev : ν → D) (kvs : List (κ × ν)) : kdD w (eKl ek ev kvs) = eKd w ek ev kvs := by
  unfold kdD eKl
  rw [List.map_map, List.map_map]; rfl
section
variable {κ ν : Type} [DecidableEq κ] {ek : κ → D} {ev : ν → D}
theorem any_kd (hk : KyC ek) (kvs : List (κ × ν)) (x : κ) : ((eKl ek ev kvs).any fun kv => decide (nkD kv.1 = nkD (ek x))) = kvs.any fun p => decide (p.1 = x) := by
  unfold eKl
  rw [List.any_map]
  congr 1
  funext p
  show decide (nkD (ek p.1) = nkD (ek x)) = decide (p.1 = x)
  by_cases h : p.1 = x
  · rw [h]; simp
  · rw [decide_eq_false h, decide_eq_false (fun z => h (hk.inj _ _ z))]
theorem putKD_eKl (hk : KyC ek) (kvs : List (κ × ν)) (x : κ) (v : ν) : putKD (eKl ek ev kvs) (ek x) (ev v) = eKl ek ev (dput kvs x v) := by
  unfold putKD dput
  rw [any_kd hk]
  split
  · unfold eKl
    rw [List.map_map, List.map_map]
    refine List.map_congr_left fun p _ => ?_
    show (if nkD (ek p.1) = nkD (ek x) then (ek p.1, ev v) else (ek p.1, ev p.2)) = (ek (if p.1 = x then (p.1, v) else p).1, ev (if p.1 = x then (p.1, v) else p).2)
    by_cases h : p.1 = x
    · rw [if_pos h, if_pos (by rw [h])]
    · rw [if_neg h, if_neg (fun z => h (hk.inj _ _ z))]
  · unfold eKl
    rw [List.map_append]; rfl
theorem valKD_eKl (hk : KyC ek) (kvs : List (κ × ν)) (x : κ) : valKD (eKl ek ev kvs) (ek x) = (dget kvs x).map ev := by
  unfold valKD dget
  induction kvs with
  | nil => rfl
  | cons p kvs ih =>
    show ((eKl ek ev (p :: kvs)).find? _).map _ = _
    rw [show eKl ek ev (p :: kvs) = (ek p.1, ev p.2) :: eKl ek ev kvs from rfl]
    by_cases h : p.1 = x
    · rw [List.find?_cons_of_pos (by simp [h]), List.find?_cons_of_pos (by simpa using h)]; rfl
    · rw [List.find?_cons_of_neg (by simpa using fun z => h (hk.inj _ _ z)), List.find?_cons_of_neg (by simpa using h)]
      exact ih
theorem eKl_ky (hk : KyC ek) (kvs : List (κ × ν)) : ∀ p ∈ eKl ek ev kvs, KyD p.1 := fun p hp => by
  obtain ⟨q, _, rfl⟩ := List.mem_map.mp hp
  exact hk.ky _
end
open Out (Rt)
def KR (K : PySem.W.Frag) (F : Hp) (acc : List (D × D)) (us : List KdE) : Prop := KRep K F acc us ∧ ∀ p ∈ acc, KyD p.1
theorem KR.mono {K : PySem.W.Frag} {F F' : Hp} (e : Ex F F') {acc : List (D × D)} {us : List KdE} (h : KR K F acc us) : KR K F' acc us := ⟨h.1.mono e, h.2⟩
theorem KR.length {K : PySem.W.Frag} {F : Hp} {acc : List (D × D)} {us : List KdE} (h : KR K F acc us) : us.length = acc.length := h.1.length
theorem putKD_ky {acc : List (D × D)} {k d : D} (h : ∀ p ∈ acc, KyD p.1) (hk : KyD k) : ∀ p ∈ putKD acc k d, KyD p.1 := fun p hp => by
  unfold putKD at hp
  split at hp
  · obtain ⟨q, hq, rfl⟩ := List.mem_map.mp hp
    split
    · exact h q hq
    · exact h q hq
  · rcases List.mem_append.mp hp with z | z
    · exact h p z
    · cases List.mem_singleton.mp z; exact hk
theorem KR.put {K : PySem.W.Frag} {F : Hp} {acc : List (D × D)} {us : List KdE} {k d : D} {p : Addr} {v : V} (h : KR K F acc us) (hk : KyD k) (h1 : Rep K F k (.ref p)) (h2 : Rep K F d v) : KR K F (putKD acc k d) (putN us (nkD k) p v) := ⟨h.1.put h1 h2, putKD_ky h.2 hk⟩
theorem KR.own {K : PySem.W.Frag} {F H : Hp} {w : World} {p : Addr} {acc : List (D × D)} {us : List KdE} (h : KR K F acc us) (hp : H p = some (KdO w p us)) : Own K F H p (kdD w acc) := own_kdD h.1 hp
/-- a store in a comprehension's dict -/
def stpK (w : World) (K : PySem.W.Frag) (L : Addr) (y z : V) (H : Hp) (N : Hp → Prop) : Prop := ∃ (xs : List KdE) (k : NestedKey) (p : Addr), y = .ref p ∧ H L = some (KdO w L xs) ∧ xs.length < sizeLine ∧ (∀ x ∈ xs, KyAt K H x) ∧ KyAt K H (k, p, z) ∧ N (upd H L (KdO w L (putN xs k p z)))
theorem dst_kd {X : Cx} (hu : X.A.units + 8 < cLine) : DSt X (fun D => KdO X.w D []) (stpK X.w X.K) := ⟨fun H h hb => kd_empty h hb, fun Y pins σ H s D y z u r N Q E hP hw hK hA I ⟨xs, k, p, e, h1, h2, h3, h4, h5⟩ ry rz hq => by
  subst e
  cases (show u = Value.ref p from ry)
  rw [← hw] at h1 h5
  rw [← hK] at h3 h4
  exact d_kset I (by rw [hA]; exact hu) h1 h2 h3 h4 rz fun s' I' => hq s' _ I' h5⟩
def isTup : D → Prop
  | .tup _ => True
  | _ => False
theorem rep_tupR {K : PySem.W.Frag} {F : Hp} {d : D} {v : V} (ht : isTup d) (h : Rep K F d v) : ∃ p, v = .ref p := by
  cases d with
  | tup ds => obtain ⟨a, _, e, _⟩ := h; exact ⟨a, e⟩
  | _ => exact ht.elim
section
variable {X : Cy} {e a b c o tg kx vx : Expr} {es ifs : List Expr} {st : Stmt} {sts rest body orelse : List Stmt} {r : Env2} {G : GD} {pos tpos p0 : Pos} {D0 : EndsD} {α β γ σT ρ : Type}
def KcTurn (X : Cy) (scope : Scope) (tg kx vx : Expr) (ifs : List Expr) (is : List Nat) (d : D) (acc : List (D × D)) (r : Env2) (G : GD) (Nx : List (D × D) → Env2 → GD → Prop) : Prop :=
  ∀ Y, BlkX X scope Y → WG Y tg d r G is fun r1 G1 => match ifs with
    | [] => ∀ Y, BlkX X scope Y → WE Y kx r1 G1 fun z r2 G2 => ∃ k, z = .sh k ∧ KyD k ∧ isTup k ∧ ∀ Y, BlkX X scope Y → WE Y vx r2 G2 fun z' r3 G3 => ∃ d' r4, fz r3 z' = some (d', r4) ∧ acc.length < LIM ∧ Nx (putKD acc k d') (wipeD r4 is) G3
    | [c] => ∀ Y, BlkX X scope Y → WT Y c r1 G1 fun b r2 G2 => (b = true → ∀ Y, BlkX X scope Y → WE Y kx r2 G2 fun z r3 G3 => ∃ k, z = .sh k ∧ KyD k ∧ isTup k ∧ ∀ Y, BlkX X scope Y → WE Y vx r3 G3 fun z' r4 G4 => ∃ d' r5, fz r4 z' = some (d', r5) ∧ acc.length < LIM ∧ Nx (putKD acc k d') (wipeD r5 is) G4) ∧ (b = false → Nx acc (wipeD r2 is) G2)
    | _ => False
theorem kc_turn {scope : Scope}  {ifs : List Expr} {is : List Nat} {d : D} {acc : List (D × D)} {Nx : List (D × D) → Env2 → GD → Prop} {F0 T F H : Hp} {σ : L2.St} {v : V} {L : Addr} {us : List KdE}
    (lk : Lk X F0 T) (S : Sta X.K F0 (upd T L (KdO X.w L us)) F G H r (L2.wipe σ is)) (hT : T L = none) (h0 : F0 L = none) (ha : KR X.K F0 acc us) (rp : Rep X.K F d v) (h : KcTurn X scope tg kx vx ifs is d acc r G Nx) {Pn : Hp → Prop}
    (hN : ∀ acc' us' r' G' F' H', Nx acc' r' G' → KR X.K F' acc' us' → Sta X.K F0 (upd T L (KdO X.w L us')) F' G' H' r' (L2.wipe σ is) → Pn H') :
    blkG X scope tg v (L2.wipe σ is) H fun σ2 H2 => L2.wipe σ2 is = L2.wipe σ is ∧ blkT X scope ifs σ2 H2 fun b H3 =>
      if b = true then blkE X scope kx σ2 H3 fun y H4 => blkE X scope vx σ2 H4 fun z H5 => stpK X.w X.K L y z H5 Pn else Pn H3 := by
  have wi : L2.wipe (L2.wipe σ is) is = L2.wipe σ is := by
    have aux : ∀ (js : List Nat) (τ : L2.St), (∀ j ∈ js, ∀ x, τ[j]? = some x → x = none) → L2.wipe τ js = τ := by
      intro js
      induction js with
      | nil => intro τ _; rfl
      | cons j js ih =>
        intro τ hτ
        unfold L2.wipe
        rw [ih τ fun k hk => hτ k (List.mem_cons_of_mem _ hk)]
        refine List.ext_getElem? fun k => ?_
        by_cases hjk : j = k
        · subst hjk
          by_cases hl : j < τ.length
          · rw [List.getElem?_set_self hl]
            cases e : τ[j]? with
            | none => rw [List.getElem?_eq_none_iff] at e; omega
            | some x => rw [hτ j List.mem_cons_self x e]
          · rw [List.getElem?_eq_none (by rw [List.length_set]; omega), List.getElem?_eq_none (by omega)]
        · rw [List.getElem?_set_ne hjk]
    refine aux is _ fun j hj x hx => ?_
    cases x with
    | none => rfl
    | some y => exact absurd hj (wipe_some hx).2
  have fin : ∀ (F2 : Hp) (G2 : GD) (H4 : Hp) (r2 r3 : Env2) (σ2 : L2.St) (z : Res) (y : V) (k : D) (pk : Addr) (d' : D), Rep X.K F2 k (.ref pk) → KyD k → L2.wipe σ2 is = L2.wipe σ is → Sta X.K F0 (upd T L (KdO X.w L us)) F2 G2 H4 r2 σ2 → ResOk X.K (upd T L (KdO X.w L us)) F2 G2 H4 r2 σ2 z y → fz r2 z = some (d', r3) → acc.length < LIM → Nx (putKD acc k d') (wipeD r3 is) G2 →
      stpK X.w X.K L (.ref pk) y H4 Pn := fun F2 G2 H4 r2 r3 σ2 z y k pk d' hrk hky hw S2 k2 q1 q2 q3 => by
    obtain ⟨F3, e3, S3, rp3⟩ := S2.fz k2 q1
    have hL : H4 L = some (KdO X.w L us) := S3.bas.tk L _ upd_same
    have ha3 : KR X.K F3 acc us := KR.mono S3.bas.ff ha
    have fL : F3 L = none := by
      cases e : F3 L with
      | none => rfl
      | some u =>
        rcases S3.bas.ft L u e with zz | zz
        · rw [h0] at zz; cases zz
        · rw [upd_same] at zz; cases zz
    have gL : G2 L = none := by
      cases e : G2 L with
      | none => rfl
      | some u => have zz := S3.bas.gt L u e; rw [upd_same] at zz; cases zz
    refine ⟨us, nkD k, pk, rfl, hL, by rw [ha3.length]; exact lim_lt q2, ha3.1.ky S3.bas.fh ha3.2, ky_at S3.bas.fh hky (Rep.mono e3 _ _ hrk), hN _ (putN us (nkD k) pk y) _ G2 F3 _ q3 (ha3.put hky (Rep.mono e3 _ _ hrk) rp3) ?_⟩
    have Sw := S3.wipe is hw
    refine ⟨⟨Sw.bas.ff, fun q u hq => ?_, fun q u hq => ?_, fun q u hq => ?_, Sw.bas.fg, fun q u hq => ?_, fun q u hq => ?_⟩, Sw.len, fun i s hs => ?_, Sw.ap⟩
    · have hqL : q ≠ L := fun zz => by subst zz; rw [fL] at hq; cases hq
      have := Sw.bas.ft q u hq
      rw [upd_ne hqL] at this ⊢
      exact this
    · have hqL : q ≠ L := fun zz => by subst zz; rw [fL] at hq; cases hq
      rw [upd_ne hqL]; exact Sw.bas.fh q u hq
    · have hqL : q ≠ L := fun zz => by subst zz; rw [gL] at hq; cases hq
      exact (Sw.bas.gh q u hq).mono (Ex.refl _) fun o ho => by rw [upd_ne hqL]; exact ho
    · have hqL : q ≠ L := fun zz => by subst zz; rw [gL] at hq; cases hq
      have := Sw.bas.gt q u hq
      rw [upd_ne hqL] at this ⊢
      exact this
    · by_cases hqL : q = L
      · subst hqL; rw [upd_same] at hq ⊢; exact hq
      · rw [upd_ne hqL] at hq ⊢
        exact Sw.bas.tk q u (by rw [upd_ne hqL]; exact hq)
    · have hh := Sw.sl i s hs
      cases s with
      | no => trivial
      | sh d => exact hh
      | own d =>
        obtain ⟨p, k1, k3, k4, k5, k6⟩ := hh
        have hpL : p ≠ L := fun zz => by subst zz; rw [upd_same] at k6; cases k6
        rw [upd_ne hpL] at k6
        exact ⟨p, k1, k3.mono (Ex.refl _) (fun u hu => by rw [upd_ne hpL]; exact hu), k4, k5, by rw [upd_ne hpL]; exact k6⟩
  intro Y hY pins s u I rv
  have lk' : Lk X F0 (upd T L (KdO X.w L us)) := lk.ext (Ex.new hT)
  have hYK : Y.K = X.K := hY.k
  have h' := h Y hY
  unfold WG at h'
  rw [hYK] at h'
  refine wpAny_mono (h' F0 (upd T L (KdO X.w L us)) F H (L2.wipe σ is) v (hY.lk lk') S rp pins s u I rv) (fun _ s' ⟨σ', H', I', hw, r', G', F', e', S', q⟩ => ⟨σ', H', I', hw.trans wi, ?_⟩) fun _ _ x => x
  have hw' := hw.trans wi
  match ifs, q with
  | [], q =>
    unfold blkT
    dsimp only
    rw [if_pos rfl]
    intro Z hZ
    have q' := q Z hZ
    unfold WE at q'
    rw [hZ.k] at q'
    refine (q' F0 _ F' H' σ' (hZ.lk lk') S').mono fun y H4 ⟨z, r2, G2, F2, e2, S2, k2, k, hz, hky, htp, m1⟩ => ?_
    subst hz
    obtain ⟨pk, rfl⟩ := rep_tupR htp k2
    intro W hW
    have q2 := m1 W hW
    unfold WE at q2
    rw [hW.k] at q2
    exact (q2 F0 _ F2 H4 σ' (hW.lk lk') S2).mono fun u H5 ⟨z', r3, G3, F3, e3, S3, k3, d', r4, n1, n2, n3⟩ => fin F3 G3 H5 r3 r4 σ' z' u k pk d' (Rep.mono e3 _ _ k2) hky hw' S3 k3 n1 n2 n3
  | [c], q =>
    intro Z hZ
    have q' := q Z hZ
    unfold WT at q'
    rw [hZ.k] at q'
    refine (q' F0 _ F' H' σ' (hZ.lk lk') S').mono fun b H3 ⟨r2, G2, F2, e2, S2, m1, m2⟩ => ?_
    cases b with
    | true =>
      rw [if_pos rfl]
      intro W hW
      have q2 := m1 rfl W hW
      unfold WE at q2
      rw [hW.k] at q2
      refine (q2 F0 _ F2 H3 σ' (hW.lk lk') S2).mono fun y H4 ⟨z, r3, G3, F3, e3, S3, k3, k, hz, hky, htp, n1⟩ => ?_
      subst hz
      obtain ⟨pk, rfl⟩ := rep_tupR htp k3
      intro V hV
      have q3 := n1 V hV
      unfold WE at q3
      rw [hV.k] at q3
      exact (q3 F0 _ F3 H4 σ' (hV.lk lk') S3).mono fun u H5 ⟨z', r4, G4, F4, e4, S4, k4, d', r5, p1, p2, p3⟩ => fin F4 G4 H5 r4 r5 σ' z' u k pk d' (Rep.mono e4 _ _ k3) hky hw' S4 k4 p1 p2 p3
    | false =>
      rw [if_neg Bool.false_ne_true]
      exact hN acc us _ G2 F2 H3 (m2 rfl) (KR.mono S2.bas.ff ha) (S2.wipe is hw')
  | _ :: _ :: _, q => exact q.elim
/-- what a comprehension's loop keeps -/
def KcInv (w : World) (K : PySem.W.Frag) (T Fa : Hp) (τ : L2.St) (L : Addr) (I : List (D × D) → Env2 → GD → Prop) : Hp → Prop := fun H' =>
  ∃ acc us r' G' F', KR K F' acc us ∧ Sta K Fa (upd T L (KdO w L us)) F' G' H' r' τ ∧ I acc r' G'
theorem kc_begin {w : World} {K : PySem.W.Frag} {F0 T F H : Hp} {σ : L2.St} {is : List Nat} {L : Addr} {I : List (D × D) → Env2 → GD → Prop} (S : Sta K F0 T F G H r σ) (hL : H L = none) (h0 : I [] (wipeD r is) G) : KcInv w K T F (L2.wipe σ is) L I (upd H L (KdO w L [])) := by
  obtain ⟨f1, f2, f3⟩ := S.bas.freshF hL
  have Sb := (S.newH (o := KdO w L []) hL).base.wipe (σ := σ) is rfl
  refine ⟨[], [], _, G, F, ⟨rfl, fun _ z => nomatch z⟩, ⟨⟨Sb.bas.ff, fun q u hq => .inl hq, Sb.bas.fh, Sb.bas.gh, Sb.bas.fg, fun q u hq => ?_, fun q u hq => ?_⟩, Sb.len, fun i s hs => ?_, Sb.ap⟩, h0⟩
  · have hq' : q ≠ L := fun z => by subst z; rw [f2] at hq; cases hq
    rw [upd_ne hq']; exact Sb.bas.gt q u hq
  · by_cases hq' : q = L
    · subst hq'; rw [upd_same] at hq ⊢; exact hq
    · rw [upd_ne hq'] at hq; exact Sb.bas.tk q u hq
  · have hh := Sb.sl i s hs
    cases s with
    | no => trivial
    | sh d => exact hh
    | own d =>
      obtain ⟨p, k1, k2, k3, k4, k5⟩ := hh
      have hp : p ≠ L := fun z => by
        subst z
        by_cases hi : i ∈ is
        · have : (L2.wipe σ is)[i]? ≠ some (some (V.ref p)) := fun z => (wipe_some z).2 hi
          exact this k1
        · have e := (wipe_some k1).1
          have hr : r[i]? = some (.own d) := by
            have aux : ∀ (js : List Nat), i ∉ js → (wipeD r js)[i]? = r[i]? := by
              intro js
              induction js with
              | nil => intro _; rfl
              | cons j js ih =>
                intro hj
                unfold wipeD
                rw [List.getElem?_set_ne (fun z => hj (by rw [z]; exact List.mem_cons_self)), ih (fun z => hj (List.mem_cons_of_mem _ z))]
            rw [aux is hi] at hs
            exact hs
          exact S.freshR hL i d hr e
      exact ⟨p, k1, k2, k3, k4, by rw [upd_ne hp]; exact k5⟩
theorem kc_end {w : World} {K : PySem.W.Frag} {F0 T Fa : Hp} {Ga : GD} {Ha H' : Hp} {σ : L2.St} {is : List Nat} {L : Addr} {I : List (D × D) → Env2 → GD → Prop} {Q : Res → Env2 → GD → Prop} (B : Bas K F0 T Fa Ga Ha) (hL : Ha L = none) (hσ : Wk r (wipeD r is)) (S0 : Sta K F0 T Fa Ga Ha r σ) (h : KcInv w K T Fa (L2.wipe σ is) L I H') (he : ∀ acc r' G', I acc r' G' → Q (.fr (kdD w acc)) r' G') :
    PostE K F0 T Fa σ Q (.ref L) H' := by
  obtain ⟨acc, us, r', G', F', ha, S, q⟩ := h
  obtain ⟨f1, f2, f3⟩ := B.freshF hL
  have fL : F' L = none := by
    cases e : F' L with
    | none => rfl
    | some u =>
      rcases S.bas.ft L u e with zz | zz
      · rw [f1] at zz; cases zz
      · rw [upd_same] at zz; cases zz
  have gL : G' L = none := by
    cases e : G' L with
    | none => rfl
    | some u => have zz := S.bas.gt L u e; rw [upd_same] at zz; cases zz
  have tsub : ∀ q u, T q = some u → upd T L (KdO w L us) q = some u := fun q u hq => by
    have hqL : q ≠ L := fun zz => by subst zz; rw [f3] at hq; cases hq
    rw [upd_ne hqL]; exact hq
  have tdown : ∀ q, upd T L (KdO w L us) q = none → T q = none := fun q hq => by
    cases hf : T q with
    | none => rfl
    | some u => rw [tsub q u hf] at hq; cases hq
  have slots : ∀ (i : Nat) (s : Sl), r'[i]? = some s → SlotOk K T F' G' H' s σ[i]? := fun i s hs => by
    have hh := S.sl i s hs
    cases s with
    | no => trivial
    | sh d => obtain ⟨v, k1, k2⟩ := hh; exact ⟨v, (wipe_some k1).1, k2⟩
    | own d => obtain ⟨p, k1, k2, k3, k4, k5⟩ := hh; exact ⟨p, (wipe_some k1).1, k2, k3, k4, tdown p k5⟩
  have St : Sta K F0 T F' G' H' r' σ := by
    refine ⟨⟨B.ff.trans S.bas.ff, fun q u hq => ?_, S.bas.fh, S.bas.gh, S.bas.fg, fun q u hq => tdown q (S.bas.gt q u hq), fun q u hq => S.bas.tk q u (tsub q u hq)⟩, by rw [S.len, wipe_length], slots, fun i j d e hij hi hj z => ?_⟩
    · rcases S.bas.ft q u hq with zz | zz
      · exact B.ft q u zz
      · exact .inr (tdown q zz)
    · obtain ⟨p, k1, _⟩ := S.ownS hi
      obtain ⟨p2, m1, _⟩ := S.ownS hj
      refine S.ap i j d e hij hi hj ?_
      rw [(wipe_some k1).1, (wipe_some m1).1] at z
      rw [k1, m1, z]
  refine ⟨.fr (kdD w acc), r', G', F', S.bas.ff, St, ⟨L, rfl, ha.own (S.bas.tk L _ upd_same), fL, gL, f3, fun i d hi z => ?_⟩, he acc r' G' q⟩
  obtain ⟨p, k1, _, _, _, k5⟩ := S.ownS hi
  have e1 := (wipe_some k1).1
  rw [e1] at z; cases z
  rw [upd_same] at k5; cases k5
/-- one step of a comprehension over items -/
theorem kc_step {scope : Scope} {ifs : List Expr} {is : List Nat} {d : D} {J : It} {ds : List D} {i : Nat} {T Fa : Hp} {H H' : Hp} {σ : L2.St} {v : V} {L : Addr} {I I' : List (D × D) → Env2 → GD → Prop} (lk : Lk X Fa T) (hL : Fa L = none) (hT : T L = none) (hJ : ItD X.K J Fa ds) (hi : ds[i]? = some d) (h : KcInv X.w X.K T Fa (L2.wipe σ is) L I H) (y : J.yld i H v H')
    (hs : ∀ acc r' G', I acc r' G' → KcTurn X scope tg kx vx ifs is d acc r' G' I') :
    blkG X scope tg v (L2.wipe σ is) H' fun σ2 H2 => L2.wipe σ2 is = L2.wipe σ is ∧ blkT X scope ifs σ2 H2 fun b H3 =>
      if b = true then blkE X scope kx σ2 H3 fun y H4 => blkE X scope vx σ2 H4 fun z H5 => stpK X.w X.K L y z H5 (KcInv X.w X.K T Fa (L2.wipe σ is) L I') else KcInv X.w X.K T Fa (L2.wipe σ is) L I' H3 := by
  obtain ⟨acc, us, r', G', F1, ha1, S1, q⟩ := h
  obtain ⟨F', ef, S, rp⟩ := hJ.item S1.bas.ff S1 hi y
  have ha := KR.mono ef ha1
  have fL : F' L = none := by
    cases e : F' L with
    | none => rfl
    | some u =>
      rcases S.bas.ft L u e with zz | zz
      · rw [hL] at zz; cases zz
      · rw [upd_same] at zz; cases zz
  have lk' : Lk X F' T := ⟨lk.t, lk.f.trans S.bas.ff, fun a o ho => (S.bas.ft a o ho).elim (fun z => lk.ft a o z) fun z => .inr (none_of lk.t (none_of (Ex.new hT) z))⟩
  refine kc_turn lk' S.base hT fL ha rp (hs acc r' G' q) fun acc' us' r2 G2 F2 H2 q2 ha2 S2 => ?_
  refine ⟨acc', us', r2, G2, F2, ha2, ⟨⟨S.bas.ff.trans S2.bas.ff, fun q u hq => ?_, S2.bas.fh, S2.bas.gh, S2.bas.fg, S2.bas.gt, S2.bas.tk⟩, S2.len, S2.sl, S2.ap⟩, q2⟩
  rcases S2.bas.ft q u hq with zz | zz
  · rcases S.bas.ft q u zz with yy | yy
    · exact .inl yy
    · by_cases hqL : q = L
      · subst hqL; rw [fL] at zz; cases zz
      · rw [upd_ne hqL] at yy ⊢; exact .inr yy
  · exact .inr zz
def KcPre (X : Cy) (scope : Scope) (tg e kx vx : Expr) (ifs : List Expr) (vs : List Nat) (r : Env2) (G : GD) (Q : Res → Env2 → GD → Prop) : Prop :=
  WI X tg e r G fun ds r2 G1 => ∃ I : Nat → List (D × D) → Env2 → GD → Prop, I 0 [] (wipeD r2 vs) G1 ∧ (∀ (k : Nat) (d : D) (acc : List (D × D)) (r3 : Env2) (G3 : GD), ds[k]? = some d → I k acc r3 G3 → KcTurn X scope tg kx vx ifs vs d acc r3 G3 (I (k + 1))) ∧
    ∀ acc r3 G3, I ds.length acc r3 G3 → Q (.fr (kdD X.w acc)) r3 G3
theorem kcI {scope : Scope} {own : List (Str × Nat)} {Q : Res → Env2 → GD → Prop} {F0 T F H : Hp} {σ : L2.St} (lk : Lk X F0 T) (S : Sta X.K F0 T F G H r σ) (h : KcPre X scope tg e kx vx ifs (own.map (·.2)) r G Q) :
    tDcG (fun D => KdO X.w D []) (stpK X.w X.K) (RunI X tg e) (blkG X scope tg) (blkT X scope ifs) (blkE X scope kx) (blkE X scope vx) (own.map (·.2)) σ H (PostE X.K F0 T F σ Q) := by
  refine (h F0 T F H σ lk S).mono fun J H1 ⟨ds, r2, G1, Fa, e1, Sa, hJ, I, i0, it, ie⟩ L hL => ?_
  obtain ⟨f1, f2, f3⟩ := Sa.bas.freshF hL
  refine ⟨fun i m H' => m = ds.length - i ∧ i ≤ ds.length ∧ KcInv X.w X.K T Fa (L2.wipe σ (own.map (·.2))) L (I i) H', ⟨ds.length, by simp, Nat.zero_le _, kc_begin Sa hL i0⟩, ?_⟩
  rintro i m H' ⟨rfl, hi, hI⟩
  obtain ⟨_, _, _, _, F', _, S', _⟩ := id hI
  obtain ⟨j1, j2⟩ := hJ F' H' S'.bas.ff S'.bas.fh
  by_cases hlt : i < ds.length
  · obtain ⟨j3, _⟩ := j2 i ds[i] (List.getElem?_eq_getElem hlt)
    refine .inr ⟨j3, fun H2 => KcInv X.w X.K T Fa (L2.wipe σ (own.map (·.2))) L (I (i + 1)) H2, fun H2 p2 => ⟨ds.length - (i + 1), by omega, rfl, hlt, p2⟩, fun x H2 y => ?_⟩
    exact kc_step (lk.base Sa.bas) f1 f3 hJ (List.getElem?_eq_getElem hlt) hI y fun acc r' G' q => it i ds[i] acc r' G' (List.getElem?_eq_getElem hlt) q
  · have e : i = ds.length := by omega
    subst e
    exact .inl ⟨j1, (kc_end Sa.bas hL (wk_wipe _ _) Sa hI fun acc r' G' q => ie acc r' G' q).ext e1⟩
theorem ws_setKc {scope : Scope} (own : List (Str × Nat)) (i : Nat) {y : Str} {py spos : Pos} (hc : X.calm = true) (hu : X.A.units + 64 < cLine) (hN : X.N.Nodup) (hy : X.N[i]? = some y) (hyl : X.env.scope.names.lookup y = some .local)
    (hsw : swapsWith (.DictComp kx vx [⟨tg, e, ifs, 0⟩] scope pos) (some (.Name y py)) spos.line X.env = pure true) (ok : BlkOk X.N X.env.scope scope own)
    (h : KcPre X scope tg e kx vx ifs (own.map (·.2)) r G fun x r3 G3 => i < r3.length ∧ ∃ r2, putS r3 i x = some r2 ∧ D0.nx r2 G3) (hs : ∀ x, foldedSetIterable e X.env x = pure x := by intro _; rfl) : WS X (.Assign [.Name y py] (.DictComp kx vx [⟨tg, e, ifs, 0⟩] scope pos) spos) r G D0 := fun F0 T F H σ lk S =>
  RunS.of (ps_setDcG (dst_kd (by omega)) hc hN hy hyl hsw piR ok ⟨blkG_ok, blkT_ok, blkE_ok, blkE_ok⟩ hs) (by
    refine RunI.mono (kcI lk S h) fun J H1 h1 L hL => ?_
    obtain ⟨W, w0, ws⟩ := h1 L hL
    refine ⟨W, w0, fun i' m H hW => (ws i' m H hW).imp (fun ⟨z1, z2⟩ => ⟨z1, ?_⟩) id⟩
    obtain ⟨y, r1, G1, F1, e1, S1, k1, hi, r2, q1, q2⟩ := z2
    obtain ⟨F2, e2, S2⟩ := S1.putS k1 hi q1
    exact ⟨r2, G1, F2, S2, q2⟩)
theorem wb_setKcQ {scope : Scope} (own : List (Str × Nat)) (i : Nat) {y : Str} {py spos : Pos} (hc : X.calm = true) (hu : X.A.units + 64 < cLine) (hN : X.N.Nodup) (hy : X.N[i]? = some y) (hyl : X.env.scope.names.lookup y = some .local)
    (hsw : swapsWith (.DictComp kx vx [⟨tg, e, ifs, 0⟩] scope pos) (some (.Name y py)) spos.line X.env = pure true) (ok : BlkOk X.N X.env.scope scope own)
    (h : KcPre X scope tg e kx vx ifs (own.map (·.2)) r G (atR fun x R G1 => i < R.length ∧ ∃ R', putS R i x = some R' ∧ WB X rest R' G1 D0)) (hs : ∀ x, foldedSetIterable e X.env x = pure x := by intro _; rfl) :
    WB X (.Assign [.Name y py] (.DictComp kx vx [⟨tg, e, ifs, 0⟩] scope pos) spos :: rest) r G D0 :=
  wb_cons (ws_setKc own i hc hu hN hy hyl hsw ok (WI.mono h fun ds r2 G1 ⟨I, i0, it, ie⟩ => ⟨I, i0, it, fun acc r3 G3 q => by
    obtain ⟨R, w, _, hi, R', hR, k⟩ := ie acc r3 G3 q
    cases hR
    exact ⟨by rw [← w.len]; exact hi, _, rfl, k.weak (w.set _ i)⟩⟩) hs)
theorem isTup_of {κ : Type} {ek : κ → D} (h : KyC ek) (a : κ) : isTup (ek a) := by obtain ⟨ds, e⟩ := h.tp a; rw [e]; trivial
theorem kcS_pre {κ ν : Type} [DecidableEq κ] {scope : Scope} (own : List (Str × Nat)) (R : Env2) (gg : σT → GD) {en : α → D} (ek : κ → D) (ev : ν → D) (hk : KyC ek) {Q : Res → Env2 → GD → Prop}
    (h : WI X tg e r G fun ds r2 G1 => ∃ (γ : Type) (xs : List α) (s0 : σT) (f : σT → α → Out (Option (κ × ν) × σT)) (kk : List (κ × ν) × σT → Out γ) (Q0 : γ → Prop) (E : Xm → Prop), ds = xs.map en ∧ xs.length ≤ LIM ∧ Wk (wipeD r2 (own.map (·.2))) R ∧ G1 = gg s0 ∧ ((Out.compS f xs [] s0).bind kk).sat Q0 E ∧
      (∀ s x (Q' : Option (κ × ν) × σT → Prop), (f s x).sat Q' E → Blk X scope fun Y => WG Y tg (en x) R (gg s) (own.map (·.2)) fun r3 G3 => match ifs with
        | [] => Blk X scope fun Y => WE Y kx r3 G3 fun z r4 G4 => ∃ k, z = .sh (ek k) ∧ Blk X scope fun Y => WE Y vx r4 G4 fun z r5 G5 => ∃ y s' r6, fz r5 z = some (ev y, r6) ∧ Wk (wipeD r6 (own.map (·.2))) R ∧ G5 = gg s' ∧ Q' (some (k, y), s')
        | [c] => Blk X scope fun Y => WT Y c r3 G3 fun b r4 G4 => (b = true → Blk X scope fun Y => WE Y kx r4 G4 fun z r5 G5 => ∃ k, z = .sh (ek k) ∧ Blk X scope fun Y => WE Y vx r5 G5 fun z r6 G6 => ∃ y s' r7, fz r6 z = some (ev y, r7) ∧ Wk (wipeD r7 (own.map (·.2))) R ∧ G6 = gg s' ∧ Q' (some (k, y), s')) ∧ (b = false → ∃ s', Wk (wipeD r4 (own.map (·.2))) R ∧ G4 = gg s' ∧ Q' (none, s'))
        | _ => False) ∧ ∀ p : List (κ × ν) × σT, (kk p).sat Q0 E → Q (.fr (eKd X.w ek ev (dmk p.1))) R (gg p.2)) : KcPre X scope tg e kx vx ifs (own.map (·.2)) r G (atR Q) :=
  (h.mono fun ds r2 G1 ⟨γ, xs, s0, f, kk, Q0, E, hd, hl, w, hg, h0, hb, hq⟩ => by
    subst hd hg
    refine ⟨fun k acc r3 G3 => ∃ ys s, Wk r3 R ∧ G3 = gg s ∧ acc = eKl ek ev (dmk ys) ∧ ys.length ≤ k ∧ ((Out.compS f (xs.drop k) ys s).bind kk).sat Q0 E, ⟨[], s0, w, rfl, rfl, Nat.le_refl _, h0⟩, fun k d acc r3 G3 hd ⟨ys, s, w3, hG, ha, hly, hq3⟩ => ?_, fun acc r3 G3 ⟨ys, s, w3, hG, ha, hly, hq3⟩ => ?_⟩
    · subst hG ha
      obtain ⟨x, hx, rfl⟩ := map_at hd
      have hlt : k < xs.length := (List.getElem?_eq_some_iff.mp hx).1
      rw [drop_at hx] at hq3
      have st := hb s x _ (compS_step hq3)
      have lim : (eKl ek ev (dmk ys)).length < LIM := by
        unfold eKl
        rw [List.length_map]
        have := dmk_len ys
        omega
      have snoc : ∀ (k : κ) (y : ν), putKD (eKl ek ev (dmk ys)) (ek k) (ev y) = eKl ek ev (dmk (ys ++ [(k, y)])) := fun k y => by rw [putKD_eKl hk, dmk_snoc]
      intro Y hY
      refine WG.mono (WG.weak w3 (st Y hY)) fun r4 G4 q' => ?_
      match ifs, q' with
      | [], q' =>
        refine fun Y hY => (q' Y hY).mono fun zz r5 G5 ⟨key, hz, q2⟩ => ⟨ek key, hz, hk.ky _, isTup_of hk _, fun Y hY => (q2 Y hY).mono fun zz r6 G6 ⟨y, s', r7, m1, m2, m3, m4⟩ => ⟨ev y, r7, m1, lim, ys ++ [(key, y)], s', m2, m3, snoc key y, by rw [List.length_append]; exact Nat.succ_le_succ hly, m4⟩⟩
      | [c], q' =>
        refine fun Y hY => (q' Y hY).mono fun b r5 G5 ⟨q1, q2⟩ => ⟨fun hb1 Y hY => ?_, fun hb0 => ?_⟩
        · exact (q1 hb1 Y hY).mono fun zz r6 G6 ⟨key, hz, q3⟩ => ⟨ek key, hz, hk.ky _, isTup_of hk _, fun Y hY => (q3 Y hY).mono fun zz r7 G7 ⟨y, s', r8, m1, m2, m3, m4⟩ => ⟨ev y, r8, m1, lim, ys ++ [(key, y)], s', m2, m3, snoc key y, by rw [List.length_append]; exact Nat.succ_le_succ hly, m4⟩⟩
        · obtain ⟨s', m2, m3, m4⟩ := q2 hb0
          exact ⟨ys, s', m2, m3, rfl, Nat.le_succ_of_le hly, m4⟩
      | _ :: _ :: _, q' => exact q'.elim
    · subst hG ha
      rw [List.length_map, List.drop_length] at hq3
      rw [eKd_kdD]
      exact ⟨R, w3, (fun i z => by cases z), hq (ys, s) hq3⟩)
end
open Out (Rt)
mutual
theorem nk_as {h : Heap} : ∀ (d : PyData) {v : Value} {as : List Addr}, nkB d = true → Reads h v d as → as = []
  | .int i, _, _, _, .int _ t => rfl
  | .bool b, _, _, _, .bool _ => rfl
  | .str x, _, _, _, .str _ t => rfl
  | .none, _, _, _, .none => rfl
  | .tuple ds, _, _, hb, .tuple h1 h2 h3 h4 => nk_asAll ds hb h4
theorem nk_asAll {h : Heap} : ∀ (ds : List PyData) {vs : List Value} {as : List Addr}, nkBs ds = true → ReadsAll h vs ds as → as = []
  | [], _, _, _, .nil => rfl
  | d :: ds, _, _, hb, .cons h1 h2 => by
    have hb : (nkB d && nkBs ds) = true := hb
    rw [Bool.and_eq_true] at hb
    rw [nk_as d hb.1 h1, nk_asAll ds hb.2 h2]; rfl
end
section
variable {X : Cx} {pos pos' tpos apos cpos : Pos} {o i e f value : Expr} {td ty tv tx : TE}
theorem pe_kdnew : PE X (.Dict [] [] pos) (fun _ H Q => ∀ p, H p = none → Q (.ref p) (upd H p (KdO X.w p []))) := ⟨fun pins s σ H Q I h =>
  wpAny_Dict_empty ⟨.ref s.heap.objs.size, _, I.laid (a := s.heap.objs.size) (o := KdO X.w s.heap.objs.size []) (t' := s.toks) (fun _ _ q => Heap.get?_push_of_some _ q) (Nat.le_refl _) (kd_empty s.heap I.big), rfl, h _ (I.hok.fresh (Nat.le_refl _))⟩⟩
theorem ps_kdput (hu : X.A.units + 9 < cLine) (ho : PE X o td) (hi : PE X i ty) (hv : PE X value tv) (hs : swapsWith value (some (.Subscript o i pos')) pos.line X.env = pure false) :
    PS X (.Assign [.Subscript o i pos'] value pos) (fun D σ H => tv σ H fun v H1 => td σ H1 fun x H2 => ty σ H2 fun y H3 => ∃ a, x = .ref a ∧ stpK X.w X.K a y v H3 fun H4 => D.nx σ H4) := by
  refine ⟨fun pins s σ H D I h => ?_⟩
  refine wpAny_Assign_Subscript (thn (hv.run pins s σ H _ I h) fun r s1 ⟨v, H1, I1, rv, q1⟩ => thn (ho.run pins s1 σ H1 _ I1 q1) fun u s2 ⟨x, H2, I2, rx, q2⟩ => thn (hi.run pins s2 σ H2 _ I2 q2) fun iv s3 ⟨y, H3, I3, ry, a, ex, xs, k, p, ey, g1, g2, g3, g4, q3⟩ => ?_) hs
  subst ex ey
  obtain rfl : u = Value.ref a := rx
  obtain rfl : iv = Value.ref p := ry
  exact d_ksetI I3 hu g1 g2 g3 g4 rv fun s4 I4 => ⟨σ, _, I4, q3⟩
/-- what a look-up asks -/
def KdAsk (X : Cx) (H : Hp) (x y : V) (r : Option V) : Prop := ∃ (a : Addr) (xs : List KdE) (k : NestedKey) (p : Addr), x = .ref a ∧ y = .ref p ∧ KdRd X.w H a xs ∧ (∀ z ∈ xs, KyAt X.K H z) ∧ KyAt X.K H (k, p, .non) ∧ r = valN xs k
theorem op_kdnin (hu : X.A.units + 9 < cLine) : OpR X (compareOp .NotIn) (fun y x H Q => ∃ r, KdAsk X H x y r ∧ Q (.bl (!r.isSome)) H) := fun pins s σ H y x u v Q I ry rx ⟨r, ⟨a, xs, k, p, e1, e2, h1, h2, h3, h4⟩, q⟩ => by
  subst e1 e2 h4
  cases (show v = Value.ref a from rx)
  cases (show u = Value.ref p from ry)
  exact d_knin I hu h1 h2 h3 fun s' I' => ⟨.bl (!(valN xs k).isSome), H, I', rfl, q⟩
theorem kd_isDict {pins : List (Addr × Obj)} {σ : L2.St} {H : Hp} {s : Shared} {a : Addr} {xs : List KdE} (I : Inv X pins σ H s) (h : KdRd X.w H a xs) : s.TypeIs (.ref a) "dict" ∧ ∀ b, Value.ref a = .ref b → ∃ ob, s.heap.get? b = some ob ∧ ob.dict = none := by
  obtain ⟨_, _, _, ys, o, es, ep, _, g1, g2, _⟩ := kd_at I.hok h
  exact ⟨⟨o, g1, g2.1⟩, fun b q => by cases q; exact ⟨o, g1, g2.2.1⟩⟩
theorem pe_kdget (hu : X.A.units + 9 < cLine) (ho : PE X o td) (hi : PE X i ty) (hs : NoSl i) : PE X (.Subscript o i pos) (fun σ H Q => td σ H fun x H1 => ty σ H1 fun y H2 => ∃ v, KdAsk X H2 x y (some v) ∧ Q v H2) := by
  refine ⟨fun pins s σ H Q I h => ?_⟩
  refine subD_of PySem.F.slot_dict_getitem.lookup hs (thn (ho.run pins s σ H _ I h) fun u s1 ⟨x, H1, I1, rx, q1⟩ => thn (hi.run pins s1 σ H1 _ I1 q1) fun iv s2 ⟨y, H2, I2, ry, v, ⟨a, xs, k, p, e1, e2, h1, h2, h3, h4⟩, q2⟩ => ?_)
  subst e1 e2
  obtain rfl : u = Value.ref a := rx
  obtain rfl : iv = Value.ref p := ry
  exact ⟨(kd_isDict I2 h1).1, d_kget I2 hu h1 h2 h3 h4.symm fun w' s3 I3 rw' => ⟨v, H2, I3, rw', q2⟩⟩
theorem pe_kdget2 (hu : X.A.units + 9 < cLine) (ho : PE X o td) (he : PE X e ty) (hf : PE X f tx) (m : M2 X o "get" apos e f cpos) :
    PE X (.Call (.Attribute o "get" apos) [e, f] [] cpos) (fun σ H Q => td σ H fun x H1 => ∃ a xs, x = .ref a ∧ KdRd X.w H1 a xs ∧ ty σ H1 fun y H2 => tx σ H2 fun z H3 => ∃ r, KdAsk X H3 x y r ∧ Q (r.getD z) H3) := by
  refine ⟨fun pins s σ H Q I h => ?_⟩
  refine wpAny_Call_method m.base m.few m.line PySem.F.plainAttrs_dict PySem.F.slot_dict_get PySem.F.type_dict_get (thn (ho.run pins s σ H _ I h) fun u s1 ⟨x, H1, I1, rx, a, xs0, ex, d, q1⟩ => ?_)
  subst ex
  obtain rfl : u = Value.ref a := rx
  refine ⟨(kd_isDict I1 d).1, (kd_isDict I1 d).2, ?_⟩
  rw [m.trees]
  refine Calls.callWith_builtin rfl (Calls.evalArgs_plain (Calls.spliced_cons (thn (he.run pins s1 σ H1 _ I1 q1) fun iv s2 ⟨y, H2, I2, ry, q2⟩ =>
    Calls.spliced_cons (thn (hf.run pins s2 σ H2 _ I2 q2) fun fv s3 ⟨z, H3, I3, rz, r, ⟨a', xs, k, p, e1, e2, h1, h2, h3, h4⟩, q3⟩ => Calls.spliced_nil ?_))))
  cases e1
  subst e2 h4
  obtain rfl : iv = Value.ref p := ry
  exact d_kget2 I3 hu h1 h2 h3 rz fun w' s4 I4 rw' => ⟨_, H3, I4, rw', q3⟩
end
section
variable {X : Cx}
theorem keys_each {K : PySem.W.Frag} {H : Hp} {β : Type} {P : V → β → Prop} : ∀ {xs : List KdE} {ys : List (NestedKey × Addr × Value)} {bs : List β}, Paired KdR xs ys → Paired P (xs.map fun x => V.ref x.2.1) bs → PySem.W.EachIs (fun u b => ∃ x, RelV x u ∧ P x b) (ys.map fun y => Value.ref y.2.1) bs
  | [], _, _, .nil, .nil => .nil
  | x :: xs, _, _, .cons h t, .cons p q => .cons ⟨V.ref x.2.1, by show Value.ref _ = Value.ref _; rw [h.2.1], p⟩ (keys_each (K := K) (H := H) t q)
/-- sorted(d), d a dict with keys that read as data -/
theorem call_sortedKd {β : Type} {enc : β → PyData} (hcalm : X.calm = true) (hu : X.A.units + 64 < cLine) : CallR X (.builtin "sorted") (fun vs H Q => ∃ (a : Addr) (xs : List KdE) (bs : List β) (P : V → β → Prop), vs = [V.ref a] ∧ KdRd X.w H a xs ∧ Paired P (xs.map fun x => V.ref x.2.1) bs ∧ (∀ x b, P x b → Dp X.K H x (enc b)) ∧ (∀ b, nkB (enc b) = true) ∧
    PySem.W.AllAlike (bs.map enc) ∧ PySem.W.Sortable (bs.map enc) ∧ (∀ b ∈ bs, (enc b).depth ≤ 60) ∧ ∀ ys p, Paired P ys (bs.mergeSort (PySem.W.dataLe false enc)) → H p = none → Q (.ref p) (upd H p (.lst ys))) := by
  intro pins s σ H vs us Q I r q
  obtain ⟨a, xs, bs, P, rfl, hd, hP, hx, hnk, hal, hso, hdp, q⟩ := q
  obtain ⟨u, rfl, rx⟩ := vals1 r
  cases rx
  obtain ⟨lo, hz, _, ys, o, es, ep, g0, g1, g2, g3, g4⟩ := kd_at I.hok hd
  have hsz : es.size = xs.length := by rw [← Array.length_toList, g4, List.length_map]; exact (Paired.length g0).symm
  refine Calls.call_function_entry PyProof.Rows.kind_sorted PyProof.Rows.plain_sorted PyProof.Rows.entry_sorted (PyProof.Rows.args_sorted1 _) ?_
  unfold Builtin.«sorted»
  refine wpAny_bind (m := checkCount "sorted" 1 1 _) (wpAny_pure ?_)
  refine wpAny_bind (PySem.W.kdu_collect (A := X.A.in1) (kdl_raw lo g2 g3) (I.ok.hd hcalm) g1 (by rw [hsz]; exact hz) fun h' tk acc hk hacc => ?_)
  have hal' : acc.toList = ys.map fun y => Value.ref y.2.1 := by
    refine List.ext_getElem? fun j => ?_
    rw [Array.getElem?_toList]
    cases e : acc[j]? with
    | none =>
      have h1 : acc.size ≤ j := Array.getElem?_eq_none_iff.mp e
      rw [hacc.1, hsz, Paired.length g0] at h1
      rw [List.getElem?_eq_none (by rw [List.length_map]; exact h1)]
    | some v =>
      obtain ⟨en, e1, e2⟩ := hacc.2 j v e
      rw [← Array.getElem?_toList, g4, List.getElem?_map] at e1
      cases e3 : ys[j]? with
      | none => rw [e3] at e1; cases e1
      | some y => rw [e3] at e1; cases e1; rw [List.getElem?_map, e3, e2]; rfl
  have hlen : acc.toList.length = bs.length := by rw [hal', List.length_map, ← Paired.length g0]; have := Paired.length hP; rw [List.length_map] at this; exact this
  have hbs : bs.length ≤ sizeLine := by have := Paired.length hP; rw [List.length_map] at this; omega
  have I1 : Inv X pins σ H { s with heap := h', toks := tk } := I.kept hk
  have eR : PySem.W.EachIs (fun u b => ∃ x, RelV x u ∧ P x b) acc.toList bs := by rw [hal']; exact keys_each (K := X.K) (H := H) g0 hP
  refine wpAny_bind (wpAny_newList ?_ (by rw [hlen]; exact hbs))
  have hoL : (h'.push (seqObj "list" acc.toList.toArray 0)).get? h'.objs.size = some (seqObj "list" acc.toList.toArray 0) := Heap.get?_push_size _ rfl
  show wpAny _ _ _ _ _ { s with heap := h'.push (seqObj "list" acc.toList.toArray 0), toks := tk }
  have er : PySem.W.EachIs (fun v b => ∃ as, Reads (h'.push (seqObj "list" acc.toList.toArray 0)) v (enc b) as ∧ h'.objs.size ∉ as) acc.toList bs := eR.mono fun v b ⟨x, rx, hp⟩ => by
    obtain ⟨as, hr⟩ := Dp.reads I1 _ x v (hx x b hp) rx
    refine ⟨as, PyProof.Rows.Reads.keeps (fun _ _ e => Heap.get?_push_of_some _ e) hr, ?_⟩
    rw [nk_as _ (hnk b) hr]; exact fun z => nomatch z
  refine wpAny_bind (wpAny_holding (PySem.W.list_sort_data (s := { s with heap := h'.push (seqObj "list" acc.toList.toArray 0), toks := tk }) hoL eR er hal hso hbs (fun b hb => by have := hdp b hb; have : X.A.in1.units = X.A.units + 1 := rfl; omega) fun out g5 g6 => ?_))
  obtain ⟨zs, v1, v2⟩ := of_each g6
  obtain ⟨e', he'⟩ := PyProof.Rows.sortedHeap_at (vs := acc.toList) (out := out.toArray) hoL
  have hzl : zs.length ≤ sizeLine := by rw [v1.length, g5]; exact hbs
  refine wpAny_pure ⟨_, rfl, .ref h'.objs.size, upd H h'.objs.size (.lst zs), I1.laid (t' := tk) (fun b u e => ?_) (Nat.le_refl _) (show ObjOk X.prog X.w _ _ _ (.lst zs) from ⟨hzl, out, e', v1, he'⟩), rfl, q _ _ v2 (I1.hok.fresh (Nat.le_refl _))⟩
  have hb : b < h'.objs.size := Heap.lt_size e
  rw [PyProof.Rows.sortedHeap_old (Nat.ne_of_lt hb) (by rw [size_push']; exact Nat.lt_succ_of_lt hb)]
  exact Heap.get?_push_of_some _ e
end
open Out (Rt)
section
variable {X : Cy} {e a b c o tg kx vx elt i : Expr} {es ifs : List Expr} {st : Stmt} {sts rest body orelse : List Stmt} {r : Env2} {G : GD} {pos tpos apos cpos p0 : Pos} {D0 : EndsD} {α β γ σT ρ κ ν : Type} [DecidableEq κ] {ek : κ → D} {f : ν → D}
theorem we_kdnew {Q : Res → Env2 → GD → Prop} (q : Q (.fr (.kd X.w [] [])) r G) : WE X (.Dict [] [] pos) r G Q := fun F0 T F H σ lk S =>
  Run.of pe_kdnew fun p hp => by
    obtain ⟨f1, f2, f3⟩ := S.bas.freshF hp
    exact ⟨.fr (.kd X.w [] []), r, G, F, Ex.refl _, S.newH hp, ⟨p, rfl, ⟨[], upd_same, rfl, rfl, rfl⟩, f1, f2, f3, S.freshR hp⟩, q⟩
theorem ws_kdput (hk : KyC ek) (hu : X.A.units + 64 < cLine)
    (h : WE X e r G fun z r1 G1 => ∃ v r2, fz r1 z = some (f v, r2) ∧ WE X o r2 G1 fun x r3 G3 => ∃ j, x = .pk j ∧ WE X i r3 G3 fun y r4 G4 => ∃ kvs key, y = .sh (ek key) ∧ r4[j]? = some (.own (eKd X.w ek f kvs)) ∧ kvs.length < LIM ∧ D0.nx (r4.set j (.own (eKd X.w ek f (dput kvs key v)))) G4)
    (hs : swapsWith e (some (.Subscript o i tpos)) pos.line X.env = pure false := by rfl) : WS X (.Assign [.Subscript o i tpos] e pos) r G D0 := fun F0 T F H σ lk S =>
  RunS.of (ps_kdput (by omega) peR peR peR hs) ((h F0 T F H σ lk S).mono fun v0 H1 ⟨z, r1, G1, F1, e1, S1, k1, v, r2, q1, h1⟩ => by
    obtain ⟨F1', e1', S1', rp⟩ := S1.fz k1 q1
    refine (h1 F0 T F1' H1 σ lk S1').mono fun vo H2 ⟨x, r3, G3, F2, e2, S2, k2, j, hx, h2⟩ => ?_
    subst hx
    obtain ⟨k2a, _⟩ := k2
    refine (h2 F0 T F2 H2 σ lk S2).mono fun vi H3 ⟨y, r4, G4, F3, e3, S3, k3, kvs, key, hy, hj, hl, q⟩ => ?_
    subst hy
    obtain ⟨pk, rfl⟩ := rep_tupR (isTup_of hk key) k3
    obtain ⟨p, m1, ow0, m5, m6⟩ := S3.mut hj
    rw [k2a] at m1; cases m1
    rw [← eKd_kdD] at ow0
    obtain ⟨us, dr, hp⟩ := kdD_own ow0
    have rv : Rep X.K F3 (f v) v0 := Rep.mono (e2.trans e3) _ _ rp
    have dr2 := dr.put (k := ek key) k3 rv
    rw [putKD_eKl hk] at dr2
    have ow := own_kdD (w := X.w) (H := upd H3 p (KdO X.w p (putN us (nkD (ek key)) pk v0))) dr2 upd_same
    rw [eKd_kdD] at ow
    exact ⟨p, rfl, us, nkD (ek key), pk, rfl, hp, by rw [dr.length]; unfold eKl; rw [List.length_map]; exact lim_lt hl, dr.ky S3.bas.fh (eKl_ky hk kvs), ky_at S3.bas.fh (hk.ky key) k3, _, G4, F3, m6 _ _ ow, q⟩)
/-- a look-up, seen -/
theorem kd_ask {K : PySem.W.Frag} {F0 T F : Hp} {H : Hp} {σ : L2.St} {va vb : V} {kvs : List (κ × ν)} {x : κ} (hK : X.K = K) (hk : KyC ek) (ex : Ex F H) (h1 : Vw K F H (ek x) va) (h2 : Vw K F H (eKd X.w ek f kvs) vb) :
    ∃ rr : Option V, KdAsk X H vb va rr ∧ ((dget kvs x = none ∧ rr = none) ∨ ∃ y v, dget kvs x = some y ∧ rr = some v ∧ Rep K F (f y) v) := by
  subst hK
  rw [← eKd_kdD] at h2
  obtain ⟨p, us, rfl, dr, rd⟩ := kdD_vw ex h2
  obtain ⟨ds, e⟩ := hk.tp x
  have rk : Rep X.K F (ek x) va := by rw [e] at h1 ⊢; exact h1.rep_tup
  obtain ⟨pk, rfl⟩ := rep_tupR (isTup_of hk x) rk
  refine ⟨valN us (nkD (ek x)), ⟨p, us, _, pk, rfl, rfl, rd, dr.ky ex (eKl_ky hk kvs), ky_at ex (hk.ky x) rk, rfl⟩, ?_⟩
  rcases KRep.val (ek x) dr with ⟨m1, m2⟩ | ⟨d, v, m1, m2, m3⟩
  · rw [valKD_eKl hk] at m1
    exact .inl ⟨Option.map_eq_none_iff.mp m1, m2⟩
  · rw [valKD_eKl hk] at m1
    obtain ⟨y, z1, z2⟩ := Option.map_eq_some_iff.mp m1
    subst z2
    exact .inr ⟨y, v, z1, m2, m3⟩
theorem kd_some {rr : Option V} {K : PySem.W.Frag} {F : Hp} {kvs : List (κ × ν)} {x : κ} (h : (dget kvs x = none ∧ rr = none) ∨ ∃ y v, dget kvs x = some y ∧ rr = some v ∧ Rep K F (f y) v) : rr.isSome = dhas kvs x := by
  rw [← dget_isSome]
  rcases h with ⟨h1, h2⟩ | ⟨y, v, h1, h2, _⟩
  · rw [h1, h2]; rfl
  · rw [h1, h2]; rfl
theorem opw_kdnin {kvs : List (κ × ν)} {x : κ} {Q : Res → Prop} (hk : KyC ek) (hu : X.A.units + 64 < cLine) (q : Q (.sh (.bl (!dhas kvs x)))) : OpW X (compareOp .NotIn) (ek x) (eKd X.w ek f kvs) Q := fun F0 T F G H r σ va vb S h1 h2 => by
  obtain ⟨rr, ask, hr⟩ := kd_ask (F0 := F0) (T := T) (σ := σ) rfl hk S.bas.fh h1 h2
  exact ⟨_, op_kdnin (by omega), rr, ask, .sh (.bl (!dhas kvs x)), F, Ex.refl _, S, by rw [kd_some hr]; rfl, q⟩
theorem we_kdget (hk : KyC ek) (hu : X.A.units + 64 < cLine) {Q : Res → Env2 → GD → Prop} (hs : NoSl i)
    (h : WE X o r G fun x r1 G1 => WE X i r1 G1 fun y r2 G2 => ∃ kvs key v, VwR r2 G2 x (eKd X.w ek f kvs) ∧ VwR r2 G2 y (ek key) ∧ dget kvs key = some v ∧ Q (.sh (f v)) r2 G2) : WE X (.Subscript o i pos) r G Q := fun F0 T F H σ lk S =>
  Run.of (pe_kdget (by omega) peR peR hs) (by
    refine (h F0 T F H σ lk S).mono fun va H1 ⟨x, r1, G1, F1, e1, S1, k1, h1⟩ => ?_
    obtain ⟨F1', e1', S1', hv⟩ := hold S1 k1
    refine (h1 F0 T F1' H1 σ lk S1').mono fun vb H2 ⟨y, r2, G2, F2, e2, S2, k2, kvs, key, v, q1, q2, q3, q4⟩ => ?_
    obtain ⟨rr, ask, hr⟩ := kd_ask (F0 := F0) (T := T) (σ := σ) rfl hk S2.bas.fh (S2.viewR k2 q2) (hv F2 G2 H2 r2 _ e2 S2 q1)
    rcases hr with ⟨z1, _⟩ | ⟨y', v', z1, z2, z3⟩
    · rw [q3] at z1; cases z1
    · rw [q3] at z1; cases z1; subst z2
      exact ⟨v', ask, .sh (f v), r2, G2, F2, (e1.trans e1').trans e2, S2, z3, q4⟩)
theorem we_kdget2 (hk : KyC ek) (hu : X.A.units + 64 < cLine) {Q : Res → Env2 → GD → Prop}
    (h : WE X o r G fun x r1 G1 => ∃ kvs, VwR r1 G1 x (eKd X.w ek f kvs) ∧ WE X a r1 G1 fun y r2 G2 => ∃ key, y = .sh (ek key) ∧ WE X b r2 G2 fun z r3 G3 => ∃ d r4 kvs, fz r3 z = some (d, r4) ∧ VwR r4 G3 x (eKd X.w ek f kvs) ∧ Q (.sh (match dget kvs key with | some v => f v | none => d)) r4 G3)
    (base : attributeBase o "get" X.env (eval o X.env) = eval o X.env := by rfl)
    (few : ((backTo cpos (starEach [a, b] X.env)).all (fun x => !x.1) && (backToKw cpos (keywordEach [] X.env)).all (fun x => x.1.isSome) && decide (([a, b] : List Expr).length + ([] : List Keyword).length + (if ([] : List Keyword).isEmpty then 0 else 1) < 30)) = true := by rfl)
    (line : (apos.endLine == cpos.line) = true := by rfl) (trees : backTo cpos (starEach [a, b] X.env) = [(false, eval a X.env), (false, eval b X.env)] := by rfl) : WE X (.Call (.Attribute o "get" apos) [a, b] [] cpos) r G Q := fun F0 T F H σ lk S =>
  Run.of (pe_kdget2 (by omega) peR peR peR ⟨base, few, line, trees⟩) (by
    refine (h F0 T F H σ lk S).mono fun va H1 ⟨x, r1, G1, F1, e1, S1, k1, kvs0, v0, h1⟩ => ?_
    obtain ⟨F1', e1', S1', hv⟩ := hold S1 k1
    have vw0 := hv F1' G1 H1 r1 _ (Ex.refl _) S1' v0
    rw [← eKd_kdD] at vw0
    obtain ⟨p, us0, hp, _, rd0⟩ := kdD_vw S1'.bas.fh vw0
    refine ⟨p, us0, hp, rd0, (h1 F0 T F1' H1 σ lk S1').mono fun vb H2 ⟨y, r2, G2, F2, e2, S2, k2, key, hy, h2⟩ => ?_⟩
    subst hy
    refine (h2 F0 T F2 H2 σ lk S2).mono fun vz H3 ⟨z, r3, G3, F3, e3, S3, k3, d, r4, kvs, q1, q2, q3⟩ => ?_
    obtain ⟨F4, e4, S4, rp⟩ := S3.fz k3 q1
    obtain ⟨rr, ask, hr⟩ := kd_ask (F0 := F0) (T := T) (σ := σ) rfl hk S4.bas.fh (.inl (Rep.mono (e3.trans e4) _ _ k2)) (hv F4 G3 H3 r4 _ ((e2.trans e3).trans e4) S4 q2)
    refine ⟨rr, ask, ?_⟩
    rcases hr with ⟨z1, z2⟩ | ⟨y', v', z1, z2, z3⟩
    · rw [z1] at q3; subst z2
      exact ⟨.sh d, r4, G3, F4, (((e1.trans e1').trans e2).trans e3).trans e4, S4, rp, q3⟩
    · rw [z1] at q3; subst z2
      exact ⟨.sh (f y'), r4, G3, F4, (((e1.trans e1').trans e2).trans e3).trans e4, S4, z3, q3⟩)
theorem krep_keys {K : PySem.W.Frag} {F : Hp} : ∀ {kvs : List (κ × ν)} {us : List KdE}, KRep K F (eKl ek f kvs) us → Paired (fun v a => Rep K F (ek a) v) (us.map fun x => V.ref x.2.1) (kvs.map (·.1))
  | [], _, h => by rw [show _ = [] from h]; exact .nil
  | p :: kvs, _, ⟨u, us', h1, h2, h3, h4, h5⟩ => by subst h1; exact .cons h3 (krep_keys h5)
theorem t_sortedKd {n : Nat} (hk : KyC ek) (ho : OrC ek n) (hc : X.calm = true) (hu : X.A.units + 64 < cLine) (kvs : List (κ × ν)) (hso : PySem.W.Sortable ((kvs.map (·.1)).map fun a => toP (ek a))) {Q : Res → Prop} (q : Q (.fr (.lst ((dsort ek (kvs.map (·.1))).map ek)))) (hn : n ≤ 60 := by decide) :
    CallW1 X (.builtin "sorted") (eKd X.w ek f kvs) Q := fun F0 T F G H r σ v S hv => by
  rw [← eKd_kdD] at hv
  obtain ⟨p, us, rfl, dr, rd⟩ := kdD_vw S.bas.fh hv
  refine ⟨_, call_sortedKd (enc := fun a : κ => toP (ek a)) hc hu, p, us, kvs.map (·.1), _, rfl, rd, krep_keys dr, fun x a rp => ho.dpv S.bas.fh (.inl rp), fun a => (hk.ky a).nb, PySem.W.AllAlike.of ho.al, hso, fun a _ => Nat.le_trans (ho.dp a) hn, fun ys l hy hl => ?_⟩
  rw [leC_data] at hy
  exact new_lst S (paired_repl hy) hl q
end
section
variable {K : PySem.W.Frag} {F0 T F H : Hp} {G : GD} {r : Env2} {σ : L2.St}
theorem Sta.lockG (S : Sta K F0 T F G H r σ) {p : Addr} {u : HO} {o : Obj} {d : D} (h1 : F p = none) (h2 : G p = none) (h3 : T p = none) (h4 : ∀ (i : Nat) (e : D), r[i]? = some (.own e) → σ[i]? ≠ some (some (.ref p))) (hr : Rep K (upd F p (.frz o u)) d (.ref p)) :
    Ex F (upd F p (.frz o u)) ∧ Sta K F0 T (upd F p (.frz o u)) G (upd H p (.frz o u)) r σ ∧ Rep K (upd F p (.frz o u)) d (.ref p) := by
  have ef : Ex F (upd F p (.frz o u)) := Ex.new h1
  refine ⟨ef, ⟨(S.bas.put h1 h2 h3).frz upd_same h1 h2 h3, S.len, fun i s e => ?_, S.ap⟩, hr⟩
  have q := S.sl i s e
  cases s with
  | no => trivial
  | sh d => obtain ⟨v, q1, q2⟩ := q; exact ⟨v, q1, Rep.mono ef _ _ q2⟩
  | own d =>
    obtain ⟨p', q1, q2, q3, q4, q5⟩ := q
    have hne : p' ≠ p := fun z => by subst z; exact h4 i d e q1
    exact ⟨p', q1, q2.mono ef fun u hu => by rw [upd_ne hne]; exact hu, by rw [upd_ne hne]; exact q3, q4, q5⟩
theorem rep_lockK {w : World} {ks ds : List D} {p : Addr} {us : List KdE} {o : Obj} (h1 : F p = none) (z1 : us.map (·.1) = nkDs ks) (z2 : RepL K F ks (us.map fun e => .ref e.2.1)) (z3 : RepL K F ds (us.map (·.2.2))) : Rep K (upd F p (.frz o (KdO w p us))) (.kd w ks ds) (.ref p) :=
  ⟨p, o, us, rfl, upd_same, z1, RepL.mono (Ex.new h1) _ _ z2, RepL.mono (Ex.new h1) _ _ z3⟩
theorem Sta.lockSlotK (S : Sta K F0 T F G H r σ) {i : Nat} {w : World} {ks ds : List D} (h : r[i]? = some (.own (.kd w ks ds))) : ∃ p us, H p = some (KdO w p us) ∧ σ[i]? = some (some (.ref p)) ∧ ∀ o,
    ∃ F', Ex F F' ∧ Sta K F0 T F' G (upd H p (.frz o (KdO w p us))) (r.set i (.sh (.kd w ks ds))) σ ∧ Rep K F' (.kd w ks ds) (.ref p) := by
  obtain ⟨p, h1, ⟨us, z0, z1, z2, z3⟩, h3, h4, h5⟩ := S.ownS h
  have hi : i < r.length := (List.getElem?_eq_some_iff.mp h).1
  refine ⟨p, us, z0, h1, fun o => ?_⟩
  have S0 : Sta K F0 T F G H (r.set i .no) σ := by
    refine ⟨S.bas, by rw [List.length_set]; exact S.len, fun j s e => ?_, fun j k d e hjk ej ek => ?_⟩
    · by_cases hj : i = j
      · subst hj; rw [List.getElem?_set_self hi] at e; cases e; trivial
      · rw [List.getElem?_set_ne hj] at e; exact S.sl j s e
    · by_cases hj : i = j
      · subst hj; rw [List.getElem?_set_self hi] at ej; cases ej
      · by_cases hk : i = k
        · subst hk; rw [List.getElem?_set_self hi] at ek; cases ek
        · rw [List.getElem?_set_ne hj] at ej
          rw [List.getElem?_set_ne hk] at ek
          exact S.ap j k d e hjk ej ek
  obtain ⟨ef, S2, rp⟩ := S0.lockG (o := o) (u := KdO w p us) h3 h4 h5 (fun j e hj zz => by
    by_cases hij : i = j
    · subst hij; rw [List.getElem?_set_self hi] at hj; cases hj
    · rw [List.getElem?_set_ne hij] at hj
      exact S.ap i j _ e hij h hj (h1.trans zz.symm)) (rep_lockK h3 z1 z2 z3)
  refine ⟨_, ef, ?_, rp⟩
  have := S2.set (i := i) (s := .sh (.kd w ks ds)) (v := .ref p) (by rw [List.length_set]; exact hi) ⟨_, rfl, rp⟩ fun d z => nomatch z
  rw [List.set_set] at this
  have hσ : σ.set i (some (.ref p)) = σ := by
    refine List.ext_getElem? fun j => ?_
    by_cases hj : i = j
    · subst hj
      have hl : i < σ.length := by rw [← S.len]; exact hi
      rw [List.getElem?_set_self hl, h1]
    · rw [List.getElem?_set_ne hj]
  rw [hσ] at this
  exact this
end
section
variable {X : Cy} {e : Expr} {sts : List Stmt} {r : Env2} {G : GD} {D0 : EndsD} {w : World} {ks ds : List D}
theorem we_lockK {Q : Res → Env2 → GD → Prop} (h : WE X e r G fun x r1 G1 => ∃ w ks ds, x = .fr (.kd w ks ds) ∧ Q (.sh (.kd w ks ds)) r1 G1) : WE X e r G Q := fun F0 T F H σ lk S pins s I =>
  wpAny_mono (h F0 T F H σ lk S pins s I) (fun u s' ⟨v, H', I', rv, x, r1, G1, F1, e1, S1, k1, w, ks, ds, hx, q⟩ => by
    subst hx
    obtain ⟨p, rfl, ⟨us, z0, z1, z2, z3⟩, h3, h4, h5, h6⟩ := k1
    obtain ⟨o, I2⟩ := I'.lock z0 (by first | trivial | exact .inl rfl | decide)
    obtain ⟨ef, S2, rp⟩ := S1.lockG (o := o) (u := KdO w p us) h3 h4 h5 h6 (rep_lockK h3 z1 z2 z3)
    exact ⟨.ref p, _, I2, rv, .sh (.kd w ks ds), r1, G1, _, e1.trans ef, S2, rp, q⟩) fun _ _ x => x
theorem we_lockVK {Q : Res → Env2 → GD → Prop} (h : WE X e r G fun x r1 G1 => ∃ i w ks ds, x = .pk i ∧ r1[i]? = some (.own (.kd w ks ds)) ∧ Q (.sh (.kd w ks ds)) (r1.set i (.sh (.kd w ks ds))) G1) : WE X e r G Q := fun F0 T F H σ lk S pins s I =>
  wpAny_mono (h F0 T F H σ lk S pins s I) (fun u s' ⟨v, H', I', rv, x, r1, G1, F1, e1, S1, k1, i, w, ks, ds, hx, hi, q⟩ => by
    subst hx
    obtain ⟨p, us, z1, z2, hz⟩ := S1.lockSlotK hi
    obtain ⟨k2, _⟩ := k1
    rw [k2] at z2; cases z2
    obtain ⟨o, I2⟩ := I'.lock z1 (by first | trivial | exact .inl rfl | decide)
    obtain ⟨F', ef, S2, rp⟩ := hz o
    exact ⟨.ref p, _, I2, rv, .sh (.kd w ks ds), _, G1, F', e1.trans ef, S2, rp, q⟩) fun _ _ x => x
end
open Out (Rt)
section
variable {X : Cy} {e a b c o tg kx vx elt i : Expr} {es ifs : List Expr} {st : Stmt} {sts rest body orelse : List Stmt} {r : Env2} {G : GD} {pos tpos apos cpos p0 : Pos} {D0 : EndsD} {α β γ σT ρ κ ν : Type} [DecidableEq κ] {ek : κ → D} {f : ν → D}
theorem we_kdgetT (hk : KyC ek) (hu : X.A.units + 64 < cLine) {Q : Res → Env2 → GD → Prop}
    (h : WE X o r G fun x r1 G1 => ∃ kvs, VwR r1 G1 x (eKd X.w ek f kvs) ∧ WE X a r1 G1 fun y r2 G2 => ∃ key, y = .sh (ek key) ∧ WE X b r2 G2 fun z r3 G3 => ∃ d r4 kvs, fz r3 z = some (f d, r4) ∧ VwR r4 G3 x (eKd X.w ek f kvs) ∧ Q (.sh (f ((dget kvs key).getD d))) r4 G3)
    (base : attributeBase o "get" X.env (eval o X.env) = eval o X.env := by rfl)
    (few : ((backTo cpos (starEach [a, b] X.env)).all (fun x => !x.1) && (backToKw cpos (keywordEach [] X.env)).all (fun x => x.1.isSome) && decide (([a, b] : List Expr).length + ([] : List Keyword).length + (if ([] : List Keyword).isEmpty then 0 else 1) < 30)) = true := by rfl)
    (line : (apos.endLine == cpos.line) = true := by rfl) (trees : backTo cpos (starEach [a, b] X.env) = [(false, eval a X.env), (false, eval b X.env)] := by rfl) : WE X (.Call (.Attribute o "get" apos) [a, b] [] cpos) r G Q :=
  we_kdget2 hk hu (h.mono fun x r1 G1 ⟨kvs, q1, h1⟩ => ⟨kvs, q1, h1.mono fun y r2 G2 ⟨key, q2, h2⟩ => ⟨key, q2, h2.mono fun z r3 G3 ⟨d, r4, kvs, q3, q4, q5⟩ => ⟨f d, r4, kvs, q3, q4, by
    cases hd : dget kvs key with
    | none => rw [hd] at q5; exact q5
    | some v => rw [hd] at q5; exact q5⟩⟩⟩) base few line trees
/-- what walks the values xs, d locked -/
def ItLk (d : Addr) (o : Obj) (u : HO) (xs : List V) : It :=
  ⟨fun i H => H d = some (.frz o u) ∧ i < xs.length, fun i H x H' => H' = H ∧ xs[i]? = some x, fun i H => H d = some (.frz o u) ∧ xs.length ≤ i⟩
/-- a locked dict of entries: its object -/
theorem kd_locked {X : Cx} {pins : List (Addr × Obj)} {σ : L2.St} {H : Hp} {s : Shared} {d : Addr} {o : Obj} {us : List KdE} (I : Inv X pins σ H s) (h : H d = some (.frz o (KdO X.w d us))) :
    (d == sysModules) = false ∧ s.heap.get? d = some o ∧ o.ExactDict ∧ us.length ≤ sizeLine ∧ ∃ (es : Array DictEntry) (ep : Nat), o.data = .dict es ep ∧ es.size = us.length ∧
      ∀ (i : Nat) (u : KdE), us[i]? = some u → ∃ en : DictEntry, es[i]? = some en ∧ RelV (.ref u.2.1) en.key ∧ RelV u.2.2 en.val := by
  obtain ⟨hd, ⟨h1, h2, _, ys, o', es, ep, g0, g1, g2, g3, g4⟩, _⟩ := I.hok d _ h
  rw [hd] at g1
  cases g1
  have hsz : es.size = us.length := by rw [← Array.length_toList, g4, List.length_map]; exact (Paired.length g0).symm
  refine ⟨h1, hd, g2, h2, es, ep, g3, hsz, fun i u hu => ?_⟩
  obtain ⟨y, hy, hr⟩ := paired_get g0 hu
  refine ⟨⟨y.1.hash X.w, .ref y.2.1, y.2.2⟩, by rw [← Array.getElem?_toList, g4, List.getElem?_map, hy]; rfl, ?_, hr.2.2⟩
  show Value.ref y.2.1 = Value.ref u.2.1
  rw [hr.2.1]
theorem turn_kd {P : Program} {w : World} {K : PySem.W.Frag} {tg : Expr} {d : Addr} {o : Obj} {es : Array DictEntry} {ep : Nat} {us : List KdE} (it : Addr) (hod : o.data = .dict es ep) :
    Turn P w K tg (ItLk d o (KdO w d us) (us.map fun x => .ref x.2.1)) [it] it (fun i h => h.IsKeyIter it d i us.length ep) where
  mem := by simp
  obj := fun i h st b hb => by
    have e : b = it := by simpa using hb
    subst e
    obtain ⟨oi, e, c, dd⟩ := st
    exact ⟨oi, e, fun v z => by rw [dd] at z; cases z⟩
  keep := fun i h h' st k => st.at fun oi e => k it (by simp) oi e
  item := by
    intro X hP hw hK hc i pins s σ H E I hf st ⟨hd, hi⟩
    subst hP hw hK
    obtain ⟨f0, f1, f2, f3, f4, f5⟩ := hf it (by simp)
    obtain ⟨_, hgd, hx, _, es', ep', hdt, hsz, ent⟩ := kd_locked I hd
    obtain ⟨rfl, rfl⟩ := dict_ep hod hdt
    rw [List.length_map] at hi
    obtain ⟨en, hen, hkey, _⟩ := ent i us[i] (List.getElem?_eq_getElem hi)
    refine next_key_item st hgd hdt hsz hen fun h' st' sb => ?_
    have I1 : Inv X pins σ H { s with heap := h' } := I.turned (t' := s.toks) (fun b ob hb e => (sb.2 b hb).trans e) f0 f1 f3 f4 f5
    obtain ⟨oi, e, c, dd⟩ := id st'
    exact ⟨en.key, rfl, go_of (s := { s with heap := h' }) e c dd (by decide) ⟨.ref us[i].2.1, H, I1, hkey, ⟨rfl, by rw [List.getElem?_map, List.getElem?_eq_getElem hi]; rfl⟩, st', fun b hb => (hf b hb).1⟩⟩
  done := by
    intro X hP hw hK hc i pins s σ H E I hf st ⟨hd, hi⟩
    subst hP hw hK
    obtain ⟨f0, f1, f2, f3, f4, f5⟩ := hf it (by simp)
    obtain ⟨hs, hgd, hx, _, es', ep', hdt, hsz, ent⟩ := kd_locked I hd
    obtain ⟨rfl, rfl⟩ := dict_ep hod hdt
    rw [List.length_map] at hi
    exact next_key_end (I.ok.hd hc) st hgd hdt hsz hi fun h' eb => ⟨rfl, I.turned (t' := s.toks) (fun b ob hb e => eb b ob hb e) f0 f1 f3 f4 f5⟩
  self := fun A i s Q E st h => by
    refine wpAny_pyIter_slot st.typeIs PySem.F.slot_dict_keyiterator_iter (wpAny_call_entry PySem.F.slot_dict_keyiterator_iter st.typeIs PySem.F.entry_dict_keyiterator_iter ?_ (PySem.F.args_dict_keyiterator_iter_1 _))
    show wpAny _ _ (ret (.ref it)) _ _ s
    exact wpAny_pure ⟨_, rfl, "dict_keyiterator", _, st.typeIs, PySem.F.slot_dict_keyiterator_next.lookup, h⟩
theorem pi_kd {X : Cx} {tg e : Expr} {td : TE} (he : PE X e td) : PI X tg e (fun σ H R => td σ H fun v H1 => ∃ d o us, v = .ref d ∧ H1 d = some (.frz o (KdO X.w d us)) ∧ R (ItLk d o (KdO X.w d us) (us.map fun x => .ref x.2.1)) H1) := by
  refine ⟨fun pins s σ H R I h => ?_⟩
  refine thn (he.run pins s σ H _ I h) fun u s1 ⟨x, H1, I1, rx, d, o, us, ex, hd, q⟩ => ?_
  subst ex
  obtain rfl : u = Value.ref d := rx
  obtain ⟨hs, hgd, hx, _, es, ep, hdt, hsz, _⟩ := kd_locked I1 hd
  refine iter_keys hs hgd hx hdt (pi_one (tk := s1.toks) I1 _ (turn_kd _ hdt) ⟨_, Heap.get?_push_size _ rfl, rfl, ?_⟩ q)
  rw [hsz] <;> rfl
theorem fz_dic {r r2 : Env2} {x : Res} {d : D} (hD : isDic d = true) (e : fz r x = some (d, r2)) : r2 = r ∧ ∃ d', x = .sh d' ∧ d' = d := by
  cases x with
  | sh d' =>
    have e' : some (d', r) = some (d, r2) := e
    cases e'; exact ⟨rfl, d, rfl, rfl⟩
  | fr d' =>
    have e' : (if isDic d' then none else some (d', r)) = some (d, r2) := e
    split at e'
    · cases e'
    · rename_i h; cases e'; exact absurd hD h
  | pk i =>
    have e' : (match r[i]? with | some (.own d) => if isDic d then none else some (d, r.set i (.sh d)) | _ => none) = some (d, r2) := e
    split at e'
    · split at e'
      · cases e'
      · rename_i h; cases e'; exact absurd hD h
    · cases e'
theorem itd_lk {K : PySem.W.Frag} {Fa : Hp} {d : Addr} {o : Obj} {u : HO} {xs : List V} {ds : List D} (hd : Fa d = some (.frz o u)) (hr : RepL K Fa ds xs) : ItD K (ItLk d o u xs) Fa ds := fun F H ea eh =>
  ⟨⟨eh _ _ (ea _ _ hd), by rw [hr.length]; exact Nat.le_refl _⟩, fun i d' hi => by
    obtain ⟨v, h1, h2⟩ := hr.get hi
    refine ⟨⟨eh _ _ (ea _ _ hd), (List.getElem?_eq_some_iff.mp h1).1⟩, fun x H' ⟨hH, hx⟩ => .inl ⟨hH, ?_⟩⟩
    rw [h1] at hx; cases hx
    exact Rep.mono ea _ _ h2⟩
theorem Run.blK {X : Cx} {e : Expr} {σ : L2.St} {H : Hp} {Q : VK} (h : Run X e σ H Q) : Run X e σ H fun v H' => (∀ a us, KdRd X.w H' a us → us.length ≤ LIM) ∧ Q v H' := fun pins s I =>
  wpAny_mono (h pins s I) (fun _ _ ⟨v, H', I', r, q⟩ => ⟨v, H', I', r, fun a us hd => lim_of (kd_at I'.hok hd).2.1, q⟩) fun _ _ x => x
theorem wi_kd {Q : List D → Env2 → GD → Prop} (h : WE X e r G fun x r1 G1 => ∃ ks ds r2, fz r1 x = some (.kd X.w ks ds, r2) ∧ (ks.length ≤ LIM → Q ks r2 G1)) : WI X tg e r G Q := fun F0 T F H σ lk S =>
  RunI.of (pi_kd peR) ((h F0 T F H σ lk S).blK.mono fun v H1 ⟨bl, x, r1, G1, F1, e1, S1, k1, ks, ds, r2, q1, q2⟩ => by
    obtain ⟨rfl, d', rfl, rfl⟩ := fz_dic rfl q1
    obtain ⟨a, ob, us, rfl, z1, z2, z3, z4⟩ := k1
    have hl : ks.length = us.length := by have := z3.length; rw [List.length_map] at this; exact this.symm
    exact ⟨a, ob, us, rfl, S1.bas.fh _ _ z1, ks, r2, G1, F1, e1, S1, itd_lk z1 z3, q2 (by rw [hl]; exact bl a us (.inr ⟨ob, S1.bas.fh _ _ z1⟩))⟩)
theorem ti_keysK {Q : List D → Env2 → GD → Prop} (h : WE X e r G fun x r1 G1 => ∃ kvs r2, fz r1 x = some (eKd X.w ek f kvs, r2) ∧ ((kvs.map (·.1)).length ≤ LIM → Q ((kvs.map (·.1)).map ek) r2 G1)) : WI X tg e r G Q :=
  wi_kd (h.mono fun x r1 G1 ⟨kvs, r2, h1, h2⟩ => ⟨_, _, r2, h1, fun hl => by
    rw [List.length_map] at hl
    have := h2 (by rw [List.length_map]; exact hl)
    rw [List.map_map] at this
    exact this⟩)
/-- d.values() -/
theorem turn_kdv {P : Program} {w : World} {K : PySem.W.Frag} {tg : Expr} {d : Addr} {o : Obj} {es : Array DictEntry} {ep : Nat} {us : List KdE} (it : Addr) (hne : d ≠ it) (hod : o.data = .dict es ep) :
    Turn P w K tg (ItLk d o (KdO w d us) (us.map (·.2.2))) [it] it (fun i h => h.IsValIter it d i us.length ep) where
  mem := by simp
  obj := fun i h st b hb => by
    have e : b = it := by simpa using hb
    subst e
    obtain ⟨oi, e, c, dd⟩ := st
    exact ⟨oi, e, fun v z => by rw [dd] at z; cases z⟩
  keep := fun i h h' st k => st.at fun oi e => k it (by simp) oi e
  item := by
    intro X hP hw hK hc i pins s σ H E I hf st ⟨hd, hi⟩
    subst hP hw hK
    obtain ⟨f0, f1, f2, f3, f4, f5⟩ := hf it (by simp)
    obtain ⟨_, hgd, hx, _, es', ep', hdt, hsz, ent⟩ := kd_locked I hd
    obtain ⟨rfl, rfl⟩ := dict_ep hod hdt
    rw [List.length_map] at hi
    obtain ⟨en, hen, _, hval⟩ := ent i us[i] (List.getElem?_eq_getElem hi)
    have hi' : i < es'.size := by rw [hsz]; exact hi
    rw [← hsz] at st
    refine PySem.wpAny_pyNext_values_item_raw st ⟨o, hgd, hx, hdt⟩ hi' fun h' st' sb => ?_
    have I1 : Inv X pins σ H { s with heap := h' } := I.turned (t' := s.toks) (fun b ob hb e => (sb.2 b hb).trans e) f0 f1 f3 f4 f5
    obtain ⟨oi, e, c, dd⟩ := id st'
    rw [hsz] at st'
    have ev : es'[i].val = en.val := by rw [Array.getElem?_eq_getElem hi'] at hen; cases hen; rfl
    refine ⟨_, rfl, go_of (s := { s with heap := h' }) e c dd (by decide) ⟨us[i].2.2, H, I1, by rw [ev]; exact hval, ⟨rfl, by rw [List.getElem?_map, List.getElem?_eq_getElem hi]; rfl⟩, st', fun b hb => (hf b hb).1⟩⟩
  done := by
    intro X hP hw hK hc i pins s σ H E I hf st ⟨hd, hi⟩
    subst hP hw hK
    obtain ⟨f0, f1, f2, f3, f4, f5⟩ := hf it (by simp)
    obtain ⟨hs, hgd, hx, _, es', ep', hdt, hsz, ent⟩ := kd_locked I hd
    obtain ⟨rfl, rfl⟩ := dict_ep hod hdt
    rw [List.length_map] at hi
    rw [← hsz] at st hi
    exact PySem.wpAny_pyNext_values_end_raw (I.ok.hd hc) st ⟨o, hgd, hx, hdt⟩ hi fun h' eb => ⟨rfl, I.turned (t' := s.toks) (fun b ob hb e => eb b ob hb e) f0 f1 f3 f4 f5⟩
  self := fun A i s Q E st h => wpAny_pyIter_valiter st h
theorem pi_kdv {X : Cx} {tg e : Expr} {td : TE} {apos cpos : Pos} (he : PE X e td) (hbase : attributeBase e "values" X.env (eval e X.env) = eval e X.env) (hline : (apos.endLine == cpos.line) = true) : PI X tg (.Call (.Attribute e "values" apos) [] [] cpos) (fun σ H R => td σ H fun v H1 => ∃ d o us, v = .ref d ∧ H1 d = some (.frz o (KdO X.w d us)) ∧ R (ItLk d o (KdO X.w d us) (us.map (·.2.2))) H1) := by
  refine ⟨fun pins s σ H R I h => ?_⟩
  refine wpAny_Call_method (T := "dict") (id := "dict.values") hbase rfl hline PySem.F.plainAttrs_dict PySem.F.slot_dict_values PySem.F.type_dict_values (thn (he.run pins s σ H _ I h) fun u s1 ⟨x, H1, I1, rx, d, o, us, ex, hd, q⟩ => ?_)
  subst ex
  obtain rfl : u = Value.ref d := rx
  obtain ⟨hs, hgd, hx, _, es, ep, hdt, hsz, _⟩ := kd_locked I1 hd
  have ty : s1.TypeIs (.ref d) "dict" := ⟨o, hgd, hx.1⟩
  refine ⟨ty, fun b q => by cases q; exact ⟨o, hgd, hx.2.1⟩, ?_⟩
  have I2 : Inv X pins σ H1 { s1 with heap := s1.heap.push { cls := .type "dict_values", data := .fields #[.ref d] } } := I1.kept (t' := s1.toks) fun b ob q => Heap.get?_push_of_some _ q
  have raw : (s1.heap.push { cls := .type "dict_values", data := .fields #[.ref d] }).DictRaw d es ep := ⟨o, Heap.get?_push_of_some _ hgd, hx, hdt⟩
  have fin : wpAny (model X.prog X.w) X.A (pyIter (.ref s1.heap.objs.size)) (PIE X pins σ tg R) X.xe { s1 with heap := s1.heap.push { cls := .type "dict_values", data := .fields #[.ref d] } } := by
    refine PySem.wpAny_pyIter_values_raw (d := d) ⟨_, Heap.get?_push_size _ rfl, rfl, rfl⟩ raw (pi_one (tk := s1.toks) I2 _ (turn_kdv _ (Nat.ne_of_lt (by rw [Heap.size_push]; exact Nat.lt_succ_of_lt (Heap.lt_size hgd))) hdt) ⟨_, Heap.get?_push_size _ rfl, rfl, ?_⟩ q)
    rw [hsz] <;> rfl
  show wpAny _ _ (callWith cpos (.builtin "dict.values") [.ref d] [] []) _ X.xe s1
  exact method_meetsIn PySem.F.slot_dict_values PySem.F.entry_dict_values rfl (PySem.evalArgs_none ⟨rfl, ty, PySem.F.args_dict_values_1 _, _, PySem.meets_dict_values_raw d hs, ⟨⟨es, ep, o, hgd, hx, hdt⟩, fin⟩⟩)
theorem ti_valuesK {Q : List D → Env2 → GD → Prop} (h : WE X e r G fun x r1 G1 => ∃ kvs r2, fz r1 x = some (eKd X.w ek f kvs, r2) ∧ ((kvs.map (·.2)).length ≤ LIM → Q ((kvs.map (·.2)).map f) r2 G1))
    (hbase : attributeBase e "values" X.env (eval e X.env) = eval e X.env := by rfl) (hline : (apos.endLine == cpos.line) = true := by rfl) : WI X tg (.Call (.Attribute e "values" apos) [] [] cpos) r G Q := fun F0 T F H σ lk S =>
  RunI.of (pi_kdv peR hbase hline) ((h F0 T F H σ lk S).blK.mono fun v H1 ⟨bl, x, r1, G1, F1, e1, S1, k1, kvs, r2, q1, q2⟩ => by
    obtain ⟨rfl, d', rfl, rfl⟩ := fz_dic rfl q1
    obtain ⟨a, ob, us, rfl, z1, z2, z3, z4⟩ := k1
    have hl : (kvs.map (·.2)).length = us.length := by have := z4.length; rw [List.length_map, List.length_map] at this; rw [List.length_map]; exact this.symm
    refine ⟨a, ob, us, rfl, S1.bas.fh _ _ z1, (kvs.map (·.2)).map f, r2, G1, F1, e1, S1, itd_lk z1 ?_, q2 (by rw [hl]; exact bl a us (.inr ⟨ob, S1.bas.fh _ _ z1⟩))⟩
    rw [List.map_map]; exact z4)
end
open Out (Rt)
open Out (Rt)
theorem Wk.trans {a b c : Env2} (w : Wk a b) : Wk b c → Wk a c := by
  induction w generalizing c with
  | nil => intro v; cases v; exact .nil
  | no _ ih => intro v; cases v with
    | no v => exact .no (ih v)
    | eq v => exact .no (ih v)
  | eq _ ih => intro v; cases v with
    | no v => exact .no (ih v)
    | eq v => exact .eq (ih v)
open Out (Rt)
open Out (Rt)
open Out (Rt)
open Out (Rt)
open Out (Rt)
section
variable {X : Cy} {e a b c o : Expr} {es : List Expr} {st : Stmt} {sts rest : List Stmt} {r : Env2} {G : GD} {pos apos p0 : Pos} {D0 : EndsD}
theorem zip_lookup {K : PySem.W.Frag} {F : Hp} : ∀ {ns : List Str} {ds : List D} {vs : List V}, ns.length = ds.length → RepL K F ds vs → ∀ {f : Str} {d : D}, (ns.zip ds).lookup f = some d → ∃ v, (ns.zip vs).lookup f = some v ∧ Rep K F d v
  | [], ds, vs, _, _, f, d, h => by simp at h
  | n :: ns, [], vs, hl, _, _, _, _ => nomatch hl
  | n :: ns, d0 :: ds, vs, hl, ⟨v, r, e, h1, h2⟩, f, d, h => by
    subst e
    rw [List.zip_cons_cons, List.lookup_cons] at h ⊢
    by_cases hf : (f == n) = true
    · rw [hf] at h ⊢; cases h; exact ⟨v, rfl, h1⟩
    · rw [Bool.not_eq_true] at hf; rw [hf] at h ⊢
      exact zip_lookup (Nat.succ.inj hl) h2 h
theorem zip_none : ∀ {ns : List Str} {vs : List V} {f : Str}, (ns.all fun n => !(f == n)) = true → (ns.zip vs).lookup f = none
  | [], _, _, _ => by simp
  | n :: ns, [], _, _ => by simp
  | n :: ns, v :: vs, f, h => by
    rw [List.all_cons, Bool.and_eq_true, Bool.not_eq_true'] at h
    rw [List.zip_cons_cons, List.lookup_cons, h.1]
    exact zip_none h.2
/-- attributes with a new value of one -/
def putA (f : Str) : List Str → List Str
  | [] => [f]
  | g :: r => if g = f then g :: r else g :: putA f r
def putAD (f : Str) (d : D) : List Str → List D → List D
  | g :: r, x :: ds => if g = f then d :: ds else x :: putAD f d r ds
  | _, _ => [d]
theorem putF_zip {K : PySem.W.Frag} {F : Hp} {f : Str} {d : D} {v : V} (hv : Rep K F d v) : ∀ {ns : List Str} {ds : List D} {vs : List V}, ns.length = ds.length → RepL K F ds vs → ∃ us, putF f v (ns.zip vs) = (putA f ns).zip us ∧ (putA f ns).length = (putAD f d ns ds).length ∧ RepL K F (putAD f d ns ds) us
  | [], [], vs, _, h => by cases (show vs = [] from h); exact ⟨[v], rfl, rfl, v, [], rfl, hv, rfl⟩
  | [], _ :: _, _, hl, _ => nomatch hl
  | _ :: _, [], _, hl, _ => nomatch hl
  | n :: ns, d0 :: ds, vs, hl, ⟨v0, r, e, h1, h2⟩ => by
    subst e
    rw [List.zip_cons_cons]
    unfold putF putA putAD
    by_cases hf : n = f
    · rw [if_pos hf, if_pos hf, if_pos hf]
      exact ⟨v :: r, rfl, hl, v, r, rfl, hv, h2⟩
    · rw [if_neg hf, if_neg hf, if_neg hf]
      obtain ⟨us, k1, k2, k3⟩ := putF_zip hv (Nat.succ.inj hl) h2
      exact ⟨v0 :: us, by rw [k1]; rfl, by rw [List.length_cons, List.length_cons, k2], v0, us, rfl, h1, k3⟩
theorem objs_at {K : PySem.W.Frag} {F0 T F H : Hp} {σ : L2.St} (S : Sta K F0 T F G H r σ) {p C : Addr} {ns : List Str} {ds : List D} (h : G p = some (.obj C ns ds)) : ∃ dx vs, H p = some (.ins C dx (ns.zip vs)) ∧ ns.length = ds.length ∧ RepL K F ds vs := S.bas.gh p _ h
/-- self.f -/
theorem we_fldO {f : Str} {Q : Res → Env2 → GD → Prop} (h : WE X e r G fun x r1 G1 => ∃ p C ns ds d, x = .sh (.adr p) ∧ G1 p = some (.obj C ns ds) ∧ Cls X.K C ∧ NoAttr X.K C f ∧ (ns.zip ds).lookup f = some d ∧ Q (.sh d) r1 G1)
    (hb : attributeBase e f X.env (eval e X.env) = eval e X.env := by rfl) : WE X (.Attribute e f pos) r G Q := fun F0 T F H σ lk S =>
  Run.of (pe_fld peR hb) ((h F0 T F H σ lk S).mono fun v H1 ⟨x, r1, G1, F1, e1, S1, k1, p, C, ns, ds, d, hx, hG, hc, hn, hl, q⟩ => by
    subst hx
    obtain ⟨dx, vs, k2, k3, k4⟩ := objs_at S1 hG
    obtain ⟨w, m1, m2⟩ := zip_lookup (ns := ns) (ds := ds) (vs := vs) k3 k4 hl
    exact ⟨p, C, dx, _, w, k1, k2, hc, hn, m1, .sh d, r1, G1, F1, e1, S1, m2, q⟩)
/-- self.f = e -/
theorem ws_fldO {f : Str} (h : WE X e r G fun y r1 G1 => ∃ d r2, fz r1 y = some (d, r2) ∧ WE X o r2 G1 fun x r3 G3 => ∃ p C ns ds, x = .sh (.adr p) ∧ G3 p = some (.obj C ns ds) ∧ Cls X.K C ∧ NoAttr X.K C f ∧ ns.length < 1000 ∧ D0.nx r3 (updG G3 p (.obj C (putA f ns) (putAD f d ns ds))))
    (hs : swapsWith e (some (.Attribute o f apos)) pos.line X.env = pure false := by rfl) : WS X (.Assign [.Attribute o f apos] e pos) r G D0 := fun F0 T F H σ lk S =>
  RunS.of (ps_fld peR peR hs) ((h F0 T F H σ lk S).mono fun v H1 ⟨y, r1, G1, F1, e1, S1, k1, d, r2, q1, h2⟩ => by
    obtain ⟨F2, e2, S2, rp⟩ := S1.fz k1 q1
    refine (h2 F0 T F2 H1 σ lk S2).mono fun u H2 ⟨x, r3, G3, F3, e3, S3, k3, p, C, ns, ds, hx, hG, hc, hn, hl, q⟩ => ?_
    subst hx
    obtain ⟨dx, vs, m2, m3, m4⟩ := objs_at S3 hG
    obtain ⟨us, n1, n2, n3⟩ := putF_zip (f := f) (Rep.mono e3 _ _ rp) m3 m4
    refine ⟨p, C, dx, _, k3, m2, hc, hn, by rw [List.length_zip]; omega, r3, _, F3, ?_, q⟩
    rw [n1]
    exact S3.gput hG ⟨dx, us, upd_same, n2, n3⟩)
def tMethOS (C : Addr) (m : Str) (sp : Sp) (E : L2.St → XK) (ta : TE) (t : TA) : TE := fun σ H Q => ta σ H fun x H1 => ∃ a dx fs, x = .ref a ∧ H1 a = some (.ins C dx fs) ∧ fs.lookup m = none ∧ t σ H1 fun ws H2 => sp (x :: ws) H2 Q (E σ)
theorem pe_methOS {X : Cx} {m : Str} {ta : TE} {t : TA} {CX : CXT} {k : Nat} {C g : Addr} {sp : Sp} {E : L2.St → XK} {pl : Sem Bool} (he : PE X o ta) (c : Cls X.K C) (hm : Meth X.K C m g) (F : FnR X.prog X.w X.K X.mg X.base CX k g sp) (hr : Room k X.A) (hx : ∀ σ, PassesAt CX X σ (E σ)) (ha : PA X (e :: es) t)
    (hst : starEach (e :: es) X.env = (false, eval e X.env) :: starEach es X.env := by rfl) (hpl : (backTo pos (starEach es X.env)).any (·.1) = false := by rfl)
    (ht : eval (.Call (.Attribute o m apos) (e :: es) [] pos) X.env = (do
      let ov ← eval o X.env
      standAt apos.atName
      let (f, first) ← holding [ov] (getMethod ov m pl)
      callWith pos f first (backTo pos (starEach (e :: es) X.env)) (backToKw pos (keywordEach [] X.env))) := by rfl) :
    PE X (.Call (.Attribute o m apos) (e :: es) [] pos) (tMethOS C m sp E ta t) := by
  refine ⟨fun pins s σ H Q I h => ?_⟩
  refine PySem.W.methodCall_KW (pl := pl) (thn (he.run pins s σ H _ I h) fun u s1 ⟨x, H1, I1, rx, a, dx, fs, ex, ea, l, q⟩ => ?_) ht
  subst ex
  obtain rfl : u = Value.ref a := rx
  refine getmeth_ok I1 ea c hm l ?_
  refine PySem.W.callWith_K (first := [.ref a]) (h₀ := X.base) I.ok.mod.kin hm.kp (thn (ha.run pos pins s1 σ H1 _ I1 q) fun us s2 ⟨ws, H2, I2, r, q2⟩ => ⟨I2.kIn, ?_⟩) hst hpl
  exact run_fnRS (us := .ref a :: us) (vs := .ref a :: ws) F hr (hx σ) I2 (.cons rfl r) q2
theorem we_methO {m : Str} {C : Addr} {k j : Nat} {ps : List Str} {sp : FSp} {pl : Sem Bool} {Q : Res → Env2 → GD → Prop} (tk : X.Tk) (c : Cls X.K C) (p : MethD X.prog X.w X.K X.mg X.base C m k ps sp) (hr : Room j X.A) (h : WE X o r G fun x r1 G1 => ∃ q ns ds, x = .sh (.adr q) ∧ G1 q = some (.obj C ns ds) ∧ (ns.all fun n => !(m == n)) = true ∧ WA X (e :: es) r1 G1 fun as r2 G2 => sp (.adr q :: as) G2 (fun z G3 => Q z r2 G3) (fun x G3 => X.QX x r2 G3)) (hj : k ≤ j := by omega)
    (hst : starEach (e :: es) X.env = (false, eval e X.env) :: starEach es X.env := by rfl) (hpl : (backTo pos (starEach es X.env)).any (·.1) = false := by rfl)
    (ht : eval (.Call (.Attribute o m apos) (e :: es) [] pos) X.env = (do
      let ov ← eval o X.env
      standAt apos.atName
      let (f, first) ← holding [ov] (getMethod ov m pl)
      callWith pos f first (backTo pos (starEach (e :: es) X.env)) (backToKw pos (keywordEach [] X.env))) := by rfl) : WE X (.Call (.Attribute o m apos) (e :: es) [] pos) r G Q := fun F0 T F H σ lk S => by
  obtain ⟨g, fd, h1, h2, h3⟩ := p.ex
  refine Run.of (pe_methOS (pl := pl) peR c h1 (fnr h2 h3) (hr.mono hj) (fun σ => passAt tk σ) paR hst hpl ht) ((h F0 T F H σ lk S).mono fun v H1 ⟨x, r1, G1, F1, e1, S1, k1, q, ns, ds, hx, hG, hn, h2⟩ => ?_)
  subst hx
  obtain ⟨dx, vs, m2, m3, m4⟩ := objs_at S1 hG
  refine ⟨q, dx, _, k1, m2, zip_none hn, (h2 F0 T F1 H1 σ lk S1).mono fun ws H2 ⟨as, r2, G2, F2, e2, S2, k2, q3⟩ => ?_⟩
  exact spD_of (ds := .adr q :: as) lk S2 (e1.trans e2) ⟨_, _, rfl, k1, k2⟩ q3
structure MakeO (P : Program) (w : World) (K : PySem.W.Frag) (mg : Str → Option Value) (base : Heap) (x : Str) (C : Addr) (k : Nat) (ps : List Str) (f : FSp) : Prop where
  ex : ∃ (g : Addr) (fd : FuncData), Mk K C g ∧ mg x = some (.ref C) ∧ FnOk P w K mg base (CX P w) k g fd ps (spD K f) ∧ Binds K fd ps []
theorem we_makeO {x : Str} {C : Addr} {k j : Nat} {ps : List Str} {f : FSp} {Q : Res → Env2 → GD → Prop} (tk : X.Tk) (M : MakeO X.prog X.w X.K X.mg X.base x C k ps f) (hr : Room j X.A) (hg : Gl X x)
    (h : WA X (e :: es) r G fun ds r1 G1 => ∀ p dx, G1 p = none → G1 dx = none → dx ≠ p → f (.adr p :: ds) (updG (updG G1 dx (.xdo p false)) p (.obj C [] [])) (fun z G2 => z = .sh .non ∧ Q (.sh (.adr p)) r1 G2) (fun xn G2 => X.QX xn r1 G2)) (hj : k + 1 ≤ j := by omega)
    (hdb : (x == ("__debug__" : Str)) = false := by decide) (he : starEach (e :: es) X.env = (false, eval e X.env) :: starEach es X.env := by rfl) (hpl : (backTo pos (starEach es X.env)).any (·.1) = false := by rfl) : WE X (.Call (.Name x p0) (e :: es) [] pos) r G Q := fun F0 T F H σ lk S => by
  obtain ⟨g, fd, h1, h2, h3, h4⟩ := M.ex
  refine Run.of (pe_makeS h1 h3 (hr.mono hj) hg h2 h4 (fun σ => passAt tk σ) paR hdb he hpl) ((h F0 T F H σ lk S).mono fun vs H1 ⟨ds, r1, G1, F1, e1, S1, k1, q1⟩ => ?_)
  intro ad dx ha hd hne
  obtain ⟨f1, f2, f3⟩ := S1.bas.freshF ha
  obtain ⟨g1, g2, g3⟩ := S1.bas.freshF hd
  have S2 : Sta X.K F0 T F1 (updG G1 dx (.xdo ad false)) (upd H1 dx (.own ad)) r1 σ := by
    have Sn := S1.newH (o := .own ad) hd
    refine ⟨⟨Sn.bas.ff, Sn.bas.ft, Sn.bas.fh, fun p d hp => ?_, fun p d hp => ?_, fun p d hp => ?_, Sn.bas.tk⟩, Sn.len, fun i s hs => ?_, Sn.ap⟩
    · by_cases hpd : p = dx
      · subst hpd; rw [updG_same] at hp; cases hp; exact upd_same
      · rw [updG_ne hpd] at hp; exact Sn.bas.gh p d hp
    · by_cases hpd : p = dx
      · subst hpd; exact g1
      · rw [updG_ne hpd] at hp; exact Sn.bas.fg p d hp
    · by_cases hpd : p = dx
      · subst hpd; exact g3
      · rw [updG_ne hpd] at hp; exact Sn.bas.gt p d hp
    · have hh := Sn.sl i s hs
      cases s with
      | no => trivial
      | sh d => exact hh
      | own d =>
        obtain ⟨p, k1, k2, k3, k4, k5⟩ := hh
        refine ⟨p, k1, k2, k3, ?_, k5⟩
        have hpd : p ≠ dx := fun z => by
          obtain ⟨p', z1, z2, _⟩ := S1.ownS hs
          rw [z1] at k1; cases k1
          obtain ⟨u, hu⟩ := z2.there
          rw [z, hd] at hu; cases hu
        rw [updG_ne hpd]; exact k4
  have ha2 : (upd H1 dx (.own ad)) ad = none := by rw [upd_ne (fun z => hne z.symm)]; exact ha
  have S3 : Sta X.K F0 T F1 (updG (updG G1 dx (.xdo ad false)) ad (.obj C [] [])) (upd (upd H1 dx (.own ad)) ad (.ins C dx [])) r1 σ := by
    have Sn := S2.newH (o := .ins C dx []) ha2
    obtain ⟨w1, w2, w3⟩ := S2.bas.freshF ha2
    refine ⟨⟨Sn.bas.ff, Sn.bas.ft, Sn.bas.fh, fun p d hp => ?_, fun p d hp => ?_, fun p d hp => ?_, Sn.bas.tk⟩, Sn.len, fun i s hs => ?_, Sn.ap⟩
    · by_cases hpd : p = ad
      · subst hpd; rw [updG_same] at hp; cases hp; exact ⟨dx, [], upd_same, rfl, rfl⟩
      · rw [updG_ne hpd] at hp; exact Sn.bas.gh p d hp
    · by_cases hpd : p = ad
      · subst hpd; exact w1
      · rw [updG_ne hpd] at hp; exact Sn.bas.fg p d hp
    · by_cases hpd : p = ad
      · subst hpd; exact w3
      · rw [updG_ne hpd] at hp; exact Sn.bas.gt p d hp
    · have hh := Sn.sl i s hs
      cases s with
      | no => trivial
      | sh d => exact hh
      | own d =>
        obtain ⟨p, k1, k2, k3, k4, k5⟩ := hh
        refine ⟨p, k1, k2, k3, ?_, k5⟩
        have hpd : p ≠ ad := fun z => by
          obtain ⟨p', z1, z2, _⟩ := S2.ownS hs
          rw [z1] at k1; cases k1
          obtain ⟨u, hu⟩ := z2.there
          rw [z, ha2] at hu; cases hu
        rw [updG_ne hpd]; exact k4
  refine ⟨F1, _, .adr ad :: ds, _, _, S3.bas.fh, S3.bas.gh, S3.bas.fg, ⟨_, _, rfl, rfl, k1⟩, q1 ad dx f2 g2 hne, fun z G' v H' F' hp B rt => ?_, fun xn cls d G' H' F' hp B ex => ⟨r1, G', F', xn, lk.sta (S3.after B), ex, hp⟩⟩
  obtain ⟨hz, hq⟩ := hp
  subst hz
  exact ⟨rt, .sh (.adr ad), r1, G', F', e1.trans B.ff, S3.after B, rfl, hq⟩
end
open Out (Rt)
section
variable {X : Cy} {e a b c o tg kx vx elt : Expr} {es ifs : List Expr} {st : Stmt} {sts rest body orelse : List Stmt} {r : Env2} {G : GD} {pos tpos apos cpos p0 : Pos} {D0 : EndsD} {α β γ σT ρ : Type}
def AtG (env : σT → Env2) (gg : σT → GD → Prop) (Q : σT → Prop) : Env2 → GD → Prop := fun r G => ∃ s, Wk r (env s) ∧ gg s G ∧ Q s
theorem wb_joinG (env : σT → Env2) (gg : σT → GD → Prop) {m : Out σT} {f : σT → Out β} {Q : β → Prop} {E : Xm → Prop} (h : (m.bind f).sat Q E)
    (hs : ∀ Q' : σT → Prop, m.sat Q' E → WS X st r G { D0 with nx := AtG env gg Q' }) (k : ∀ s G, gg s G → (f s).sat Q E → WB X rest (env s) G D0) : WB X (st :: rest) r G D0 :=
  wb_cut (AtG env gg fun s => (f s).sat Q E) (hs _ (Out.sb h)) fun r1 G1 ⟨s, w, hg, q⟩ => by
    exact (k s _ hg q).weak w
theorem wb_forRG (is : List Nat) (env : σT → Env2) (gg : σT → GD → Prop) (en : α → D) (er : ρ → Res) (gr : ρ → GD → Prop) (hp : PassesOwn (model X.prog X.w) X.A X.env X.xe) (hc : X.calm = true)
    (h : WI X tg e r G fun ds r2 G1 => ∃ (xs : List α) (s0 : σT) (f : σT → α → Out (Rt σT ρ)) (kk : Rt σT ρ → Out β) (Q : β → Prop) (E : Xm → Prop), ds = xs.map en ∧ Wk r2 (env s0) ∧ gg s0 G1 ∧ ((Out.loop f xs s0).bind kk).sat Q E ∧
      (∀ (s : σT) (G : GD) (x : α) (Q' : Rt σT ρ → Prop), gg s G → (f s x).sat Q' E → WG X tg (en x) (env s) G is fun r4 G4 => WB X body r4 G4 { nx := AtG env gg (fun s => Q' (.nx s)), ct := AtG env gg (fun s => Q' (.nx s)), bk := fun r1 G1 => WB X rest r1 G1 D0, rt := fun y G' => ∃ v, y = er v ∧ gr v G' ∧ Q' (.rt v) }) ∧
      (∀ v G, gr v G → (kk (.rt v)).sat Q E → D0.rt (er v) G) ∧ ∀ s G, gg s G → (kk (.nx s)).sat Q E → WB X rest (env s) G D0) (hs : ∀ x, foldedSetIterable e X.env x = pure x := by intro _; rfl) : WB X (.For tg e body [] pos :: rest) r G D0 :=
  wb_cons (ws_for (is := is) hp hc (h.mono fun ds r2 G1 ⟨xs, s0, f, kk, Q, E, hd, w0, hg, h0, hb, hr, hn⟩ => by
    subst hd
    refine ⟨fun k r3 G3 => AtG env gg (fun s => ((Out.loop f (xs.drop k) s).bind kk).sat Q E) r3 G3, ⟨s0, w0, hg, h0⟩, fun k d r3 G3 hd ⟨s, w, hg, hq⟩ => ?_, fun r3 G3 ⟨s, w, hg, hq⟩ => ?_⟩
    · obtain ⟨x, hx, rfl⟩ := map_at hd
      rw [drop_at hx] at hq
      have hq' : (f s x).sat (fun t => match t with
          | .nx s' => ((Out.loop f (xs.drop (k + 1)) s').bind kk).sat Q E
          | .rt v => (kk (.rt v)).sat Q E) E := by
        have z : (((f s x).bind fun t => match t with
          | .nx s' => Out.loop f (xs.drop (k + 1)) s'
          | .rt v => .ok (.rt v)).bind kk).sat Q E := hq
        cases hf : f s x with
        | ok t =>
          rw [hf] at z
          cases t with
          | nx s' => exact z
          | rt v => exact z
        | ex x' => rw [hf] at z; exact z
        | no => rw [hf] at z; exact z
      refine WG.weak w fun F0 T F H σ v lk S rp => ?_
      have q := hb s _ x _ hg hq' F0 T F H σ v lk S rp
      refine fun pins s1 u I rv => wpAny_mono (q pins s1 u I rv) (fun _ _ ⟨σ', H', I', hw, r', G', F', e', S', q'⟩ => ⟨σ', H', I', hw, r', G', F', e', S', ?_⟩) fun _ _ x => x
      refine WB.mono q' (fun _ _ z => z) (fun y G' ⟨v, hy, hG, z⟩ => ?_) (fun _ _ z => z) (fun _ _ z => z)
      subst hy
      exact hr v _ hG z
    · rw [List.length_map, List.drop_length] at hq
      exact (hn s _ hg hq).weak w) hs)
end
open Out (Rt)
abbrev As := List Addr → GD → Prop
structure AOk (P : As) : Prop where
  dom : ∀ fp G, P fp G → ∀ a ∈ fp, ∃ d, G a = some d
  loc : ∀ fp G G', P fp G → (∀ a ∈ fp, G' a = G a) → P fp G'
/-- what a step leaves: all else is as it was, what is new was not there -/
def Frm (fp : List Addr) (G : GD) (fp' : List Addr) (G' : GD) : Prop := (∀ b, b ∉ fp → G b ≠ none → G' b = G b) ∧ ∀ b ∈ fp', b ∈ fp ∨ G b = none
theorem Frm.refl (fp : List Addr) (G : GD) : Frm fp G fp G := ⟨fun _ _ _ => rfl, fun _ h => .inl h⟩
theorem Frm.trans {a b c : List Addr} {G G' G'' : GD} (h : Frm a G b G') (k : Frm b G' c G'') : Frm a G c G'' := by
  refine ⟨fun x hx hg => ?_, fun x hx => ?_⟩
  · have e := h.1 x hx hg
    have hb : x ∉ b := fun z => by
      rcases h.2 x z with y | y
      · exact hx y
      · exact hg y
    rw [k.1 x hb (by rw [e]; exact hg), e]
  · rcases k.2 x hx with y | y
    · exact h.2 x y
    · by_cases z : x ∈ a
      · exact .inl z
      · right
        cases e : G x with
        | none => rfl
        | some d =>
          have := h.1 x z (by rw [e]; exact fun w => nomatch w)
          rw [y, e] at this; cases this
def GS (Ps : List As) (G : GD) : Prop := ∃ fps : List (List Addr), fps.length = Ps.length ∧ (∀ (i : Nat) (P : As) (fp : List Addr), Ps[i]? = some P → fps[i]? = some fp → AOk P ∧ P fp G) ∧ ∀ (i j : Nat) (fp fq : List Addr), i ≠ j → fps[i]? = some fp → fps[j]? = some fq → ∀ a ∈ fp, a ∉ fq
theorem GS.nil (G : GD) : GS [] G := ⟨[], rfl, fun i P fp h => by simp at h, fun i j fp fq _ h => by simp at h⟩
/-- one of the parts is changed -/
theorem GS.at {Ps : List As} {G : GD} (h : GS Ps G) (i : Nat) {P : As} (hi : Ps[i]? = some P) : ∃ fp, AOk P ∧ P fp G ∧ ∀ (P' : As) (fp' : List Addr) (G' : GD), AOk P' → P' fp' G' → Frm fp G fp' G' → GS (Ps.set i P') G' := by
  obtain ⟨fps, h1, h2, h3⟩ := h
  have hlt : i < Ps.length := (List.getElem?_eq_some_iff.mp hi).1
  obtain ⟨fp, hfp⟩ : ∃ fp, fps[i]? = some fp := ⟨_, List.getElem?_eq_getElem (by omega)⟩
  obtain ⟨k1, k2⟩ := h2 i P fp hi hfp
  refine ⟨fp, k1, k2, fun P' fp' G' q1 q2 q3 => ⟨fps.set i fp', by rw [List.length_set, List.length_set, h1], fun j Q fq hQ hq => ?_, fun j l fq fr hjl hq hr a ha hb => ?_⟩⟩
  · by_cases e : i = j
    · subst e
      rw [List.getElem?_set_self hlt] at hQ
      rw [List.getElem?_set_self (by omega)] at hq
      cases hQ; cases hq; exact ⟨q1, q2⟩
    · rw [List.getElem?_set_ne e] at hQ hq
      obtain ⟨m1, m2⟩ := h2 j Q fq hQ hq
      refine ⟨m1, m1.loc fq G G' m2 fun a ha => q3.1 a (h3 j i fq fp (fun z => e z.symm) hq hfp a ha) ?_⟩
      obtain ⟨d, hd⟩ := m1.dom fq G m2 a ha
      rw [hd]; exact fun z => nomatch z
  · have out : ∀ (m : Nat) (fm : List Addr), m ≠ i → fps[m]? = some fm → ∀ x ∈ fm, x ∉ fp' := fun m fm hm hfm x hx hx' => by
      rcases q3.2 x hx' with y | y
      · exact h3 m i fm fp hm hfm hfp x hx y
      · have hml : m < Ps.length := by have := (List.getElem?_eq_some_iff.mp hfm).1; omega
        obtain ⟨m1, m2⟩ := h2 m _ fm (List.getElem?_eq_getElem hml) hfm
        obtain ⟨d, hd⟩ := m1.dom fm G m2 x hx
        rw [y] at hd; cases hd
    by_cases e : i = j
    · subst e
      rw [List.getElem?_set_self (by omega)] at hq
      rw [List.getElem?_set_ne hjl] at hr
      cases hq
      exact out l fr (fun z => hjl z.symm) hr a hb ha
    · rw [List.getElem?_set_ne e] at hq
      by_cases e2 : i = l
      · subst e2
        rw [List.getElem?_set_self (by omega)] at hr
        cases hr
        exact out j fq (fun z => e z.symm) hq a ha hb
      · rw [List.getElem?_set_ne e2] at hr
        exact h3 j l fq fr hjl hq hr a ha hb
/-- a new part -/
theorem GS.add {Ps : List As} {G : GD} (h : GS Ps G) {P : As} {fp : List Addr} {G' : GD} (k : AOk P) (hp : P fp G') (h1 : ∀ b, G b ≠ none → G' b = G b) (h2 : ∀ b ∈ fp, G b = none) : GS (Ps ++ [P]) G' := by
  obtain ⟨fps, k1, k2, k3⟩ := h
  have dom : ∀ (i : Nat) (fq : List Addr), fps[i]? = some fq → ∀ a ∈ fq, ∃ d, G a = some d := fun i fq hq a ha => by
    have hil : i < Ps.length := by have := (List.getElem?_eq_some_iff.mp hq).1; omega
    obtain ⟨m1, m2⟩ := k2 i _ fq (List.getElem?_eq_getElem hil) hq
    exact m1.dom fq G m2 a ha
  refine ⟨fps ++ [fp], by rw [List.length_append, List.length_append, k1]; rfl, fun i Q fq hQ hq => ?_, fun i j fq fr hij hq hr a ha hb => ?_⟩
  · by_cases hi : i < Ps.length
    · rw [List.getElem?_append_left hi] at hQ
      rw [List.getElem?_append_left (by omega)] at hq
      obtain ⟨m1, m2⟩ := k2 i Q fq hQ hq
      refine ⟨m1, m1.loc fq G G' m2 fun a ha => h1 a ?_⟩
      obtain ⟨d, hd⟩ := m1.dom fq G m2 a ha
      rw [hd]; exact fun z => nomatch z
    · have : i = Ps.length := by have := (List.getElem?_eq_some_iff.mp hQ).1; rw [List.length_append] at this; simp at this; omega
      subst this
      rw [List.getElem?_append_right (Nat.le_refl _), Nat.sub_self] at hQ
      rw [← k1, List.getElem?_append_right (Nat.le_refl _), Nat.sub_self] at hq
      cases hQ; cases hq; exact ⟨k, hp⟩
  · have cs : ∀ (m : Nat) (fm : List Addr), (fps ++ [fp])[m]? = some fm → fps[m]? = some fm ∨ (m = fps.length ∧ fm = fp) := fun m fm hm => by
      by_cases hl : m < fps.length
      · rw [List.getElem?_append_left hl] at hm; exact .inl hm
      · have : m = fps.length := by have := (List.getElem?_eq_some_iff.mp hm).1; rw [List.length_append] at this; simp at this; omega
        subst this
        rw [List.getElem?_append_right (Nat.le_refl _), Nat.sub_self] at hm
        cases hm; exact .inr ⟨rfl, rfl⟩
    rcases cs i fq hq with z | ⟨z1, z2⟩
    · rcases cs j fr hr with y | ⟨y1, y2⟩
      · exact k3 i j fq fr hij z y a ha hb
      · subst y2
        obtain ⟨d, hd⟩ := dom i fq z a ha
        rw [h2 a hb] at hd; cases hd
    · subst z2
      rcases cs j fr hr with y | ⟨y1, y2⟩
      · obtain ⟨d, hd⟩ := dom j fr y a hb
        rw [h2 a ha] at hd; cases hd
      · exact hij (by omega)
theorem GS.take {Ps : List As} {G : GD} (h : GS Ps G) (n : Nat) : GS (Ps.take n) G := by
  obtain ⟨fps, k1, k2, k3⟩ := h
  refine ⟨fps.take n, by rw [List.length_take, List.length_take, k1], fun i P fp hP hf => ?_, fun i j fp fq hij hf hq => ?_⟩
  · rw [List.getElem?_take] at hP hf
    split at hP
    · rename_i hi
      rw [if_pos hi] at hf
      exact k2 i P fp hP hf
    · cases hP
  · rw [List.getElem?_take] at hf hq
    split at hf
    · split at hq
      · exact k3 i j fp fq hij hf hq
      · cases hq
    · cases hf
inductive Fld where
  | sh (d : D) | mo (d : D)
/-- an own list -/
abbrev Fld.mu (ds : List D) : Fld := .mo (.lst ds)
inductive FL (G : GD) : List Fld → List D → List Addr → Prop
  | nil : FL G [] [] []
  | sh {d : D} {fs : List Fld} {ds : List D} {as : List Addr} (h : FL G fs ds as) : FL G (.sh d :: fs) (d :: ds) as
  | mo {d : D} {a : Addr} {fs : List Fld} {ds : List D} {as : List Addr} (ha : G a = some d) (h : FL G fs ds as) : FL G (.mo d :: fs) (.adr a :: ds) (a :: as)
theorem FL.loc {G G' : GD} {fs : List Fld} {ds : List D} {as : List Addr} (h : FL G fs ds as) (k : ∀ a ∈ as, G' a = G a) : FL G' fs ds as := by
  induction h with
  | nil => exact .nil
  | sh _ ih => exact .sh (ih k)
  | mo ha _ ih => exact .mo (by rw [k _ List.mem_cons_self]; exact ha) (ih fun a h => k a (List.mem_cons_of_mem _ h))
theorem FL.dom {G : GD} {fs : List Fld} {ds : List D} {as : List Addr} (h : FL G fs ds as) : ∀ a ∈ as, ∃ d, G a = some d := by
  induction h with
  | nil => intro a h; cases h
  | sh _ ih => exact ih
  | mo ha _ ih =>
    intro a h
    rcases List.mem_cons.mp h with rfl | h
    · exact ⟨_, ha⟩
    · exact ih a h
theorem FL.len {G : GD} {fs : List Fld} {ds : List D} {as : List Addr} (h : FL G fs ds as) : fs.length = ds.length := by
  induction h with
  | nil => rfl
  | sh _ ih => rw [List.length_cons, List.length_cons, ih]
  | mo _ _ ih => rw [List.length_cons, List.length_cons, ih]
def obA (C o : Addr) (ns : List Str) (fs : List Fld) : As := fun fp G => ∃ ds as, fp = o :: as ∧ (o :: as).Nodup ∧ ns.length = fs.length ∧ G o = some (.obj C ns ds) ∧ FL G fs ds as
/-- a field that is shared data is read -/
theorem FL.get {G : GD} : ∀ {fs : List Fld} {ds : List D} {as : List Addr}, FL G fs ds as → ∀ {ns : List Str} {f : Str} {d : D}, (ns.zip fs).lookup f = some (.sh d) → (ns.zip ds).lookup f = some d
  | _, _, _, .nil, ns, f, d, h => by cases ns <;> simp at h
  | _, _, _, .sh k, [], f, d, h => by simp at h
  | _, _, _, .mo _ k, [], f, d, h => by simp at h
  | _, _, _, .sh k, n :: ns, f, d, h => by
    rw [List.zip_cons_cons, List.lookup_cons] at h ⊢
    cases e : f == n with
    | true => rw [e] at h; cases h; rfl
    | false => rw [e] at h; exact k.get h
  | _, _, _, .mo _ k, n :: ns, f, d, h => by
    rw [List.zip_cons_cons, List.lookup_cons] at h ⊢
    cases e : f == n with
    | true => rw [e] at h; cases h
    | false => rw [e] at h; exact k.get h
/-- fields with a new one -/
def putFl (f : Str) (x : Fld) : List Str → List Fld → List Fld
  | g :: r, y :: fs => if g = f then x :: fs else y :: putFl f x r fs
  | _, _ => [x]
/-- a list of an own field is known by its address; it may be changed -/
theorem FL.mutD {G : GD} : ∀ {fs : List Fld} {ds : List D} {as : List Addr}, FL G fs ds as → as.Nodup → ∀ {ns : List Str} {f : Str} {l : D}, (ns.zip fs).lookup f = some (.mo l) → ∃ a ∈ as, (ns.zip ds).lookup f = some (.adr a) ∧ G a = some l ∧ ∀ l', FL (updG G a l') (putFl f (.mo l') ns fs) ds as
  | _, _, _, .nil, _, ns, f, l, h => by cases ns <;> simp at h
  | _, _, _, .sh k, _, [], f, l, h => by simp at h
  | _, _, _, .mo _ k, _, [], f, l, h => by simp at h
  | _, _, _, .sh (d := d) k, hn, n :: ns, f, l, h => by
    rw [List.zip_cons_cons, List.lookup_cons] at h
    cases e : f == n with
    | true => rw [e] at h; cases h
    | false =>
      rw [e] at h
      obtain ⟨a, ha, h1, h2, h3⟩ := k.mutD hn h
      refine ⟨a, ha, by rw [List.zip_cons_cons, List.lookup_cons, e]; exact h1, h2, fun l' => ?_⟩
      unfold putFl
      rw [if_neg (fun z => by rw [z, beq_self_eq_true] at e; cases e)]
      exact .sh (h3 l')
  | _, _, _, .mo (a := a0) ha0 k, hn, n :: ns, f, l, h => by
    obtain ⟨n1, n2⟩ := List.nodup_cons.mp hn
    rw [List.zip_cons_cons, List.lookup_cons] at h
    cases e : f == n with
    | true =>
      rw [e] at h; cases h
      refine ⟨a0, List.mem_cons_self, by rw [List.zip_cons_cons, List.lookup_cons, e], ha0, fun l' => ?_⟩
      unfold putFl
      rw [if_pos (eq_of_beq e).symm]
      exact .mo updG_same (k.loc fun b hb => updG_ne fun z => n1 (z ▸ hb))
    | false =>
      rw [e] at h
      obtain ⟨a, ha, h1, h2, h3⟩ := k.mutD n2 h
      refine ⟨a, List.mem_cons_of_mem _ ha, by rw [List.zip_cons_cons, List.lookup_cons, e]; exact h1, h2, fun l' => ?_⟩
      unfold putFl
      rw [if_neg (fun z => by rw [z, beq_self_eq_true] at e; cases e)]
      have hne : a0 ≠ a := fun z => n1 (by rw [z]; exact ha)
      exact .mo (by rw [updG_ne hne]; exact ha0) (h3 l')
theorem FL.mut {G : GD} {fs : List Fld} {ds : List D} {as : List Addr} (h : FL G fs ds as) (hn : as.Nodup) {ns : List Str} {f : Str} {l : List D} (hl : (ns.zip fs).lookup f = some (.mu l)) : ∃ a ∈ as, (ns.zip ds).lookup f = some (.adr a) ∧ G a = some (.lst l) ∧ ∀ l', FL (updG G a (.lst l')) (putFl f (.mu l') ns fs) ds as := by
  obtain ⟨a, h1, h2, h3, h4⟩ := h.mutD hn hl
  exact ⟨a, h1, h2, h3, fun l' => h4 _⟩
/-- a field gets shared data, or a list that is new -/
theorem FL.put {G : GD} : ∀ {fs : List Fld} {ds : List D} {as : List Addr}, FL G fs ds as → as.Nodup → ∀ {ns : List Str}, ns.length = fs.length → ∀ (f : Str) (x : Fld) (dx : D) (ax : List Addr), FL G [x] [dx] ax → (∀ a ∈ ax, a ∉ as) → ∃ bs, FL G (putFl f x ns fs) (putAD f dx ns ds) bs ∧ bs.Nodup ∧ ∀ a ∈ bs, a ∈ as ∨ a ∈ ax
  | _, _, _, .nil, _, [], _, f, x, dx, ax, hx, _ => ⟨ax, hx, by
      cases hx with
      | sh h => cases h; exact List.nodup_nil
      | mo _ h => cases h; simp, fun a h => .inr h⟩
  | _, _, _, .nil, _, _ :: _, hl, _, _, _, _, _, _ => nomatch hl
  | _, _, _, .sh _, _, [], hl, _, _, _, _, _, _ => nomatch hl
  | _, _, _, .mo _ _, _, [], hl, _, _, _, _, _, _ => nomatch hl
  | _, _, _, .sh (as := as) k, hn, n :: ns, hl, f, x, dx, ax, hx, hd => by
    unfold putFl putAD
    by_cases e : n = f
    · rw [if_pos e, if_pos e]
      cases hx with
      | sh h => cases h; exact ⟨as, .sh k, hn, fun a h => .inl h⟩
      | mo ha h =>
        cases h
        rename_i a0
        exact ⟨a0 :: as, .mo ha k, List.nodup_cons.mpr ⟨hd a0 (by simp), hn⟩, fun a h => by
          rcases List.mem_cons.mp h with rfl | h
          · exact .inr (by simp)
          · exact .inl h⟩
    · rw [if_neg e, if_neg e]
      obtain ⟨bs, b1, b2, b3⟩ := k.put hn (Nat.succ.inj hl) f x dx ax hx hd
      exact ⟨bs, .sh b1, b2, b3⟩
  | _, _, _, .mo (as := as) (a := a1) ha1 k, hn, n :: ns, hl, f, x, dx, ax, hx, hd => by
    obtain ⟨n1, n2⟩ := List.nodup_cons.mp hn
    have hd' : ∀ a ∈ ax, a ∉ as := fun a h z => hd a h (List.mem_cons_of_mem _ z)
    unfold putFl putAD
    by_cases e : n = f
    · rw [if_pos e, if_pos e]
      cases hx with
      | sh h => cases h; exact ⟨as, .sh k, n2, fun a h => .inl (List.mem_cons_of_mem _ h)⟩
      | mo ha h =>
        cases h
        rename_i a0
        exact ⟨a0 :: as, .mo ha k, List.nodup_cons.mpr ⟨hd' a0 (by simp), n2⟩, fun a h => by
          rcases List.mem_cons.mp h with rfl | h
          · exact .inr (by simp)
          · exact .inl (List.mem_cons_of_mem _ h)⟩
    · rw [if_neg e, if_neg e]
      obtain ⟨bs, b1, b2, b3⟩ := k.put n2 (Nat.succ.inj hl) f x dx ax hx hd'
      refine ⟨a1 :: bs, .mo ha1 b1, List.nodup_cons.mpr ⟨fun z => ?_, b2⟩, fun a h => ?_⟩
      · rcases b3 a1 z with y | y
        · exact n1 y
        · exact hd a1 y List.mem_cons_self
      · rcases List.mem_cons.mp h with rfl | h
        · exact .inl List.mem_cons_self
        · exact (b3 a h).imp (List.mem_cons_of_mem _) id
open Out (Rt)
section
variable {X : Cy} {e a b c o : Expr} {es : List Expr} {st : Stmt} {sts rest : List Stmt} {r : Env2} {G : GD} {pos apos p0 : Pos} {D0 : EndsD} {σT A R : Type}
theorem obA.own {C p : Addr} {ns : List Str} {fs : List Fld} {fp : List Addr} (h : obA C p ns fs fp G) : ∃ ds, G p = some (.obj C ns ds) := let ⟨ds, _, _, _, _, h1, _⟩ := h; ⟨ds, h1⟩
/-- self.f, shared data -/
theorem we_fldA {f : Str} {C : Addr} {ns : List Str} {fs : List Fld} {d : D} {Q : Res → Env2 → GD → Prop} (c : Cls X.K C) (n : NoAttr X.K C f) (hl : (ns.zip fs).lookup f = some (.sh d)) (h : WE X e r G fun x r1 G1 => ∃ p fp, x = .sh (.adr p) ∧ obA C p ns fs fp G1 ∧ Q (.sh d) r1 G1)
    (hb : attributeBase e f X.env (eval e X.env) = eval e X.env := by rfl) : WE X (.Attribute e f pos) r G Q :=
  we_fldO (h.mono fun x r1 G1 ⟨p, fp, hx, hP, q⟩ => by
    obtain ⟨ds, as, _, _, _, hG, hF⟩ := hP
    exact ⟨p, C, ns, ds, d, hx, hG, c, n, hF.get hl, q⟩) hb
/-- self.f = e, shared data -/
theorem ws_fldA {f : Str} {C : Addr} {ns : List Str} {fs : List Fld} (c : Cls X.K C) (n : NoAttr X.K C f) (hn : ns.length < 1000) (h : WE X e r G fun y r1 G1 => ∃ d r2, fz r1 y = some (d, r2) ∧ WE X o r2 G1 fun x r3 G3 => ∃ p fp, x = .sh (.adr p) ∧ obA C p ns fs fp G3 ∧
      ∀ fp' G', obA C p (putA f ns) (putFl f (.sh d) ns fs) fp' G' → Frm fp G3 fp' G' → D0.nx r3 G')
    (hs : swapsWith e (some (.Attribute o f apos)) pos.line X.env = pure false := by rfl) : WS X (.Assign [.Attribute o f apos] e pos) r G D0 :=
  ws_fldO (h.mono fun y r1 G1 ⟨d, r2, q1, h2⟩ => ⟨d, r2, q1, h2.mono fun x r3 G3 ⟨p, fp, hx, hP, k⟩ => by
    obtain ⟨ds, as, rfl, hnd, hln, hG, hF⟩ := hP
    obtain ⟨n1, n2⟩ := List.nodup_cons.mp hnd
    have hF' : FL (updG G3 p (.obj C (putA f ns) (putAD f d ns ds))) fs ds as := hF.loc fun a ha => updG_ne fun z => n1 (z ▸ ha)
    obtain ⟨bs, b1, b2, b3⟩ := hF'.put n2 hln f (.sh d) d [] (.sh .nil) (fun a h => by cases h)
    have hbs : ∀ a ∈ bs, a ∈ as := fun a h => (b3 a h).elim id fun z => by cases z
    refine ⟨p, C, ns, ds, hx, hG, c, n, hn, k (p :: bs) _ ⟨_, bs, rfl, List.nodup_cons.mpr ⟨fun z => n1 (hbs p z), b2⟩, ?_, updG_same, b1⟩ ⟨fun b hb _ => updG_ne fun z => hb (by simp [z]), fun b hb => ?_⟩⟩
    · have e1 : (putA f ns).length = (putAD f d ns ds).length := by
        have : ∀ (ns : List Str) (ds : List D), ns.length = ds.length → (putA f ns).length = (putAD f d ns ds).length := by
          intro ns
          induction ns with
          | nil => intro ds h; cases ds with
            | nil => rfl
            | cons _ _ => cases h
          | cons m ns ih =>
            intro ds h
            cases ds with
            | nil => cases h
            | cons x ds =>
              unfold putA putAD
              by_cases e : m = f
              · rw [if_pos e, if_pos e]; exact h
              · rw [if_neg e, if_neg e, List.length_cons, List.length_cons, ih ds (Nat.succ.inj h)]
        exact this ns ds (by rw [hln, hF.len])
      rw [e1, b1.len]
    · rcases List.mem_cons.mp hb with rfl | hb
      · exact .inl List.mem_cons_self
      · exact .inl (List.mem_cons_of_mem _ (hbs b hb))⟩) hs
theorem putA_len (f : Str) (d : D) : ∀ (ns : List Str) (ds : List D), ns.length = ds.length → (putA f ns).length = (putAD f d ns ds).length
  | [], [], _ => rfl
  | [], _ :: _, h => nomatch h
  | _ :: _, [], h => nomatch h
  | m :: ns, x :: ds, h => by
    unfold putA putAD
    by_cases e : m = f
    · rw [if_pos e, if_pos e]; exact h
    · rw [if_neg e, if_neg e, List.length_cons, List.length_cons, putA_len f d ns ds (Nat.succ.inj h)]
theorem FL.frz {G : GD} : ∀ {fs : List Fld} {ds : List D} {as : List Addr}, FL G fs ds as → as.Nodup → ∀ {ns : List Str} {f : Str} {l : List D}, (ns.zip fs).lookup f = some (.mu l) → ∀ (d : D), ∃ a ∈ as, (ns.zip ds).lookup f = some (.adr a) ∧ G a = some (.lst l) ∧ ∃ bs, FL G (putFl f (.sh d) ns fs) (putAD f d ns ds) bs ∧ bs.Nodup ∧ (∀ b ∈ bs, b ∈ as) ∧ a ∉ bs
  | _, _, _, .nil, _, ns, f, l, h, _ => by cases ns <;> simp at h
  | _, _, _, .sh k, _, [], f, l, h, _ => by simp at h
  | _, _, _, .mo _ k, _, [], f, l, h, _ => by simp at h
  | _, _, _, .sh (d := d0) k, hn, n :: ns, f, l, h, d => by
    rw [List.zip_cons_cons, List.lookup_cons] at h
    cases e : f == n with
    | true => rw [e] at h; cases h
    | false =>
      rw [e] at h
      obtain ⟨a, ha, h1, h2, bs, h3, h4, h5, h6⟩ := k.frz hn h d
      refine ⟨a, ha, by rw [List.zip_cons_cons, List.lookup_cons, e]; exact h1, h2, bs, ?_, h4, h5, h6⟩
      unfold putFl putAD
      rw [if_neg (fun z => by rw [z, beq_self_eq_true] at e; cases e), if_neg (fun z => by rw [z, beq_self_eq_true] at e; cases e)]
      exact .sh h3
  | _, _, _, .mo (a := a0) (as := as) ha0 k, hn, n :: ns, f, l, h, d => by
    obtain ⟨n1, n2⟩ := List.nodup_cons.mp hn
    rw [List.zip_cons_cons, List.lookup_cons] at h
    cases e : f == n with
    | true =>
      rw [e] at h; cases h
      refine ⟨a0, List.mem_cons_self, by rw [List.zip_cons_cons, List.lookup_cons, e], ha0, as, ?_, n2, fun b hb => List.mem_cons_of_mem _ hb, n1⟩
      unfold putFl putAD
      rw [if_pos (eq_of_beq e).symm, if_pos (eq_of_beq e).symm]
      exact .sh k
    | false =>
      rw [e] at h
      obtain ⟨a, ha, h1, h2, bs, h3, h4, h5, h6⟩ := k.frz n2 h d
      refine ⟨a, List.mem_cons_of_mem _ ha, by rw [List.zip_cons_cons, List.lookup_cons, e]; exact h1, h2, a0 :: bs, ?_, List.nodup_cons.mpr ⟨fun z => n1 (h5 _ z), h4⟩, fun b hb => ?_, fun z => ?_⟩
      · unfold putFl putAD
        rw [if_neg (fun z => by rw [z, beq_self_eq_true] at e; cases e), if_neg (fun z => by rw [z, beq_self_eq_true] at e; cases e)]
        exact .mo ha0 h3
      · rcases List.mem_cons.mp hb with rfl | hb
        · exact List.mem_cons_self
        · exact List.mem_cons_of_mem _ (h5 b hb)
      · rcases List.mem_cons.mp z with z | z
        · exact n1 (z ▸ ha)
        · exact h6 z
/-- of a method: the object's state is threaded -/
def FMO (cx : Nat → Addr) (C : Addr) (ns : List Str) {σT A R : Type} (fl : σT → List Fld) (en : A → List D) (er : R → Res) (f : σT → A → Out (R × σT)) : FSp := fun ds G post px => ∃ (s : σT) (a : A) (o : Addr) (fp : List Addr), ds = .adr o :: en a ∧ obA C o ns (fl s) fp G ∧
  (f s a).sat (fun v => ∀ fp' G', obA C o ns (fl v.2) fp' G' → Frm fp G fp' G' → post (er v.1) G') (fun m => ∀ fp' G', obA C o ns (fl s) fp' G' → Frm fp G fp' G' → px (xnOf cx m) G')
/-- of an __init__ -/
def FIO (cx : Nat → Addr) (C : Addr) (ns : List Str) {σT A : Type} (fl : σT → List Fld) (en : A → List D) (f : A → Out σT) : FSp := fun ds G post px => ∃ (a : A) (o dx : Addr) (G0 : GD), ds = .adr o :: en a ∧ G = updG (updG G0 dx (.xdo o false)) o (.obj C [] []) ∧ G0 o = none ∧ G0 dx = none ∧ dx ≠ o ∧
  (f a).sat (fun s => ∀ fp' G', obA C o ns (fl s) fp' G' → Frm [] G0 fp' G' → post (.sh .non) G') (fun m => ∀ G', (∀ b, G0 b ≠ none → G' b = G0 b) → px (xnOf cx m) G')
theorem obA_new {C o dx : Addr} {G0 : GD} : obA C o [] [] [o] (updG (updG G0 dx (.xdo o false)) o (.obj C [] [])) := ⟨[], [], rfl, by simp, rfl, updG_same, .nil⟩
theorem frm_new {C o dx : Addr} {G0 : GD} (h1 : G0 o = none) (h2 : G0 dx = none) : Frm [] G0 [o] (updG (updG G0 dx (.xdo o false)) o (.obj C [] [])) :=
  ⟨fun b _ hb => by
    have q1 : b ≠ o := fun z => hb (by rw [z]; exact h1)
    have q2 : b ≠ dx := fun z => hb (by rw [z]; exact h2)
    rw [updG_ne q1, updG_ne q2], fun b hb => by rw [List.mem_singleton] at hb; subst hb; exact .inr h1⟩
end
open Out (Rt)
section
variable {X : Cy} {e a b c o : Expr} {es : List Expr} {st : Stmt} {sts rest : List Stmt} {r : Env2} {G : GD} {pos apos cpos p0 : Pos} {D0 : EndsD} {σT A R α : Type} {cx : Nat → Addr}
theorem WA.mono {Q Q' : List D → Env2 → GD → Prop} (h : WA X es r G Q) (k : ∀ x r' G', Q x r' G' → Q' x r' G') : WA X es r G Q' := fun F0 T F H σ lk S =>
  (h F0 T F H σ lk S).mono fun _ _ ⟨x, r', G', F', a, b, c, q⟩ => ⟨x, r', G', F', a, b, c, k _ _ _ q⟩
/-- a method that changes the object -/
theorem we_methM {m : Str} {C : Addr} {k j : Nat} {ps : List Str} {pl : Sem Bool} {ns : List Str} {fl : σT → List Fld} {en : A → List D} {er : R → Res} {f : σT → A → Out (R × σT)} {Q : Res → Env2 → GD → Prop} (tk : X.Tk) (c : Cls X.K C) (p : MethD X.prog X.w X.K X.mg X.base C m k ps (FMO cx C ns fl en er f)) (hr : Room j X.A) (nm : (ns.all fun n => !(m == n)) = true)
    (h : WE X o r G fun x r1 G1 => ∃ s q fp, x = .sh (.adr q) ∧ obA C q ns (fl s) fp G1 ∧ WA X (e :: es) r1 G1 fun as r2 G2 => ∃ a fp2, as = en a ∧ obA C q ns (fl s) fp2 G2 ∧
      (f s a).sat (fun v => ∀ fp' G', obA C q ns (fl v.2) fp' G' → Frm fp2 G2 fp' G' → Q (er v.1) r2 G') (fun xm => ∀ fp' G', obA C q ns (fl s) fp' G' → Frm fp2 G2 fp' G' → X.QX (xnOf cx xm) r2 G')) (hj : k ≤ j := by omega)
    (hst : starEach (e :: es) X.env = (false, eval e X.env) :: starEach es X.env := by rfl) (hpl : (backTo pos (starEach es X.env)).any (·.1) = false := by rfl)
    (ht : eval (.Call (.Attribute o m apos) (e :: es) [] pos) X.env = (do
      let ov ← eval o X.env
      standAt apos.atName
      let (f, first) ← holding [ov] (getMethod ov m pl)
      callWith pos f first (backTo pos (starEach (e :: es) X.env)) (backToKw pos (keywordEach [] X.env))) := by rfl) : WE X (.Call (.Attribute o m apos) (e :: es) [] pos) r G Q :=
  we_methO tk c p hr (h.mono fun x r1 G1 ⟨s, q, fp, hx, hP, h2⟩ => by
    obtain ⟨ds, hG⟩ := hP.own
    exact ⟨q, ns, ds, hx, hG, nm, WA.mono h2 fun as r2 G2 ⟨a, fp2, ha, hP2, hs⟩ => by subst ha; exact ⟨s, a, q, fp2, rfl, hP2, hs⟩⟩) hj hst hpl ht
/-- C(..) -/
theorem we_makeC {x : Str} {C : Addr} {k j : Nat} {ps : List Str} {ns : List Str} {fl : σT → List Fld} {en : A → List D} {f : A → Out σT} {Q : Res → Env2 → GD → Prop} (tk : X.Tk) (M : MakeO X.prog X.w X.K X.mg X.base x C k ps (FIO cx C ns fl en f)) (hr : Room j X.A) (hg : Gl X x)
    (h : WA X (e :: es) r G fun ds r1 G1 => ∃ a, ds = en a ∧ (f a).sat (fun s => ∀ p fp G', obA C p ns (fl s) fp G' → Frm [] G1 fp G' → Q (.sh (.adr p)) r1 G') (fun xm => ∀ G', (∀ b, G1 b ≠ none → G' b = G1 b) → X.QX (xnOf cx xm) r1 G')) (hj : k + 1 ≤ j := by omega)
    (hdb : (x == ("__debug__" : Str)) = false := by decide) (he : starEach (e :: es) X.env = (false, eval e X.env) :: starEach es X.env := by rfl) (hpl : (backTo pos (starEach es X.env)).any (·.1) = false := by rfl) : WE X (.Call (.Name x p0) (e :: es) [] pos) r G Q :=
  we_makeO tk M hr hg (WA.mono h fun ds r1 G1 ⟨a, ha, hs⟩ p dx h1 h2 h3 => by
    subst ha
    refine ⟨a, p, dx, G1, rfl, rfl, h1, h2, h3, hs.imp (fun s q fp' G' hP hF => ⟨rfl, q p fp' G' hP hF⟩) fun xm q => q⟩) hj hdb he hpl
end
open Out (Rt)
open Out (Rt)
open Out (Rt)
open Out (Rt)
open Out (Rt)
def bhA (b g : Addr) (x : Bh) : As := fun fp G => fp = [b, g] ∧ g ≠ b ∧ G b = some (.lst [.int x.1.2.1, .adr g, .int x.1.2.2]) ∧ G g = some (.lst (x.1.1.map D.int))
theorem bhA_ok (b g : Addr) (x : Bh) : AOk (bhA b g x) := by
  refine ⟨?_, ?_⟩
  · rintro fp G ⟨rfl, _, h1, h2⟩ a ha
    rcases List.mem_cons.mp ha with rfl | ha
    · exact ⟨_, h1⟩
    · rw [List.mem_singleton] at ha; subst ha; exact ⟨_, h2⟩
  · rintro fp G G' ⟨rfl, hn, h1, h2⟩ h
    exact ⟨rfl, hn, by rw [h b (by simp)]; exact h1, by rw [h g (by simp)]; exact h2⟩
theorem GS.boxH0 {G0 : GD} {b g : Addr} (hn : g ≠ b) (x : Bh) : GS [bhA b g x] (bxH G0 b g x) := by
  refine ⟨[[b, g]], rfl, fun i P fp h h' => ?_, fun i j fp fq hij h h' => ?_⟩
  · cases i with
    | zero => cases h; cases h'; exact ⟨bhA_ok b g x, rfl, hn, updG_same, by unfold bxH; rw [updG_ne hn, updG_same]⟩
    | succ i => simp at h
  · cases i with
    | zero => cases j with
      | zero => exact absurd rfl hij
      | succ j => simp at h'
    | succ i => simp at h
/-- the table of a law's own code is a part, too -/
def tabA (P : Addr) (q : Str) : As := fun fp G => fp = [P] ∧ G P = some (.tab q)
theorem GS.tab {Ps : List As} {G : GD} (h : GS Ps G) (i : Nat) {P : Addr} {q : Str} (hi : Ps[i]? = some (tabA P q)) : G P = some (.tab q) := by
  obtain ⟨fp, _, h1, _⟩ := h.at i hi
  exact h1.2
open Out (Rt)
open Out (Rt)
theorem PE.weak {X : Cx} {e : Expr} {t t' : TE} (h : PE X e t) (k : ∀ σ H Q, t' σ H Q → t σ H Q) : PE X e t' := ⟨fun pins s σ H Q I q => h.run pins s σ H Q I (k σ H Q q)⟩
open Out (Rt)
/-- a block's context from which the def's own state comes back, its slots as rl tells -/
def LamB (X : Cy) (scope : Scope) (rl : Env2) (Fa : Hp) (Y : Cy) : Prop :=
  ∃ (s : Shared) (H : Hp) (C : Addr) (cl : List (Str × Addr)) (fp : List Addr) (pins : List (Addr × Obj)) (σ0 : L2.St), Y = { X.toCx.blk s H scope (compEnvC scope cl C X.env) fp with F0 := Fa, T := X.T, QX := fun _ _ _ => False } ∧ Ex X.F0 Fa ∧ rl.length = σ0.length ∧
    (∀ (i : Nat) (d : D), rl[i]? = some (.sh d) → ∃ v, σ0[i]? = some (some v) ∧ Rep X.K Fa d v) ∧ ∀ (pins' : List (Addr × Obj)) (σ' : L2.St) (H' : Hp) (s' : Shared), Inv Y.toCx pins' σ' H' s' → Inv X.toCx pins σ0 H' s'
section
variable {X Y : Cy} {tg e elt : Expr} {ifs : List Expr} {r rl : Env2} {G : GD} {pos p : Pos} {Fa : Hp} {scope : Scope}
theorem LamB.k (h : LamB X scope rl Fa Y) : Y.K = X.K := by obtain ⟨_, _, _, _, _, _, _, rfl, _⟩ := h; rfl
theorem LamB.lk {F' T' : Hp} (h : LamB X scope rl Fa Y) (ef : Ex Fa F') (lk : Lk X F' T') : Lk Y F' T' := by
  obtain ⟨_, _, _, _, _, _, _, rfl, ex, _⟩ := h
  exact ⟨lk.t, ef, fun a o ho => (lk.ft a o ho).imp (fun z => ex _ _ z) id⟩
theorem LamB.tk (h : LamB X scope rl Fa Y) : Y.Tk := by
  obtain ⟨_, _, _, _, _, _, _, rfl, _⟩ := h
  exact takes0.imp fun _ _ _ _ ⟨_, _, _, _, _, _, z⟩ => z
end
def Out.seqs {ρ : Type} : List (Out ρ) → Out (List ρ)
  | [] => .ok []
  | m :: ms => m.bind fun v => (Out.seqs ms).bind fun vs => .ok (v :: vs)
open Out (Rt)
section
variable {X : Cy} {tg e elt : Expr} {ifs : List Expr} {sts : List Stmt} {r rl : Env2} {G : GD} {pos p : Pos} {D0 : EndsD} {scope : Scope}
theorem Bas.drop {K : PySem.W.Frag} {F0 T F H : Hp} {G G' : GD} (B : Bas K F0 T F G' H) (h : ∀ a d, G a = some d → G' a = some d) : Bas K F0 T F G H :=
  ⟨B.ff, B.ft, B.fh, fun a d q => B.gh a d (h a d q), fun a o q => B.fg a o (h a o q), fun a o q => B.gt a o (h a o q), B.tk⟩
theorem none_drop {G G' : GD} (h : ∀ a d, G a = some d → G' a = some d) {p : Addr} (q : G' p = none) : G p = none := by
  cases e : G p with
  | none => rfl
  | some d => rw [h p d e] at q; cases q
theorem RtOk.drop {K : PySem.W.Frag} {T F H : Hp} {G G' : GD} (h : ∀ a d, G a = some d → G' a = some d) {x : Res} {v : V} (k : RtOk K T F G' H x v) : RtOk K T F G H x v := by
  cases x with
  | sh d => exact k
  | fr d => obtain ⟨p, k1, k2, k3, k4, k5⟩ := k; exact ⟨p, k1, k2, k3, none_drop h k4, k5⟩
  | pk i => exact k
/-- a def that has made objects of its own: its answers, without them -/
theorem wb_dropR (G0 : GD) (h : WB X sts r G { D0 with rt := fun x G' => (∀ a d, G0 a = some d → G' a = some d) ∧ D0.rt x G0 }) : WB X sts r G D0 := fun F0 T F H σ lk S =>
  (h F0 T F H σ lk S).mono (fun _ _ q => q) (fun _ _ ⟨x, G', F', a, b, c, q⟩ => ⟨x, G0, F', a.drop c, b.drop c, q⟩) (fun _ _ q => q) (fun _ _ q => q)
theorem Frm.sub {G G' : GD} {fp : List Addr} (h : Frm [] G fp G') : ∀ a d, G a = some d → G' a = some d := fun a d q => by
  rw [h.1 a (fun z => nomatch z) (by rw [q]; exact fun z => nomatch z)]; exact q
end
open Out (Rt)
inductive At where
  | s (z : S) | i (n : Int)
deriving DecidableEq
def At.s? : At → Option S
  | .s z => some z
  | .i _ => none
def At.i? : At → Option Int
  | .s _ => none
  | .i n => some n
@[simp] theorem At.s?_s (z : S) : (At.s z).s? = some z := rfl
@[simp] theorem At.s?_i (n : Int) : (At.i n).s? = none := rfl
@[simp] theorem At.i?_s (z : S) : (At.s z).i? = none := rfl
@[simp] theorem At.i?_i (n : Int) : (At.i n).i? = some n := rfl
open Out (Rt)
section
variable {X : Cy} {tg e elt : Expr} {ifs : List Expr} {r : Env2} {G : GD} {pos p : Pos} {D0 : EndsD} {scope : Scope} {α β γ σT : Type}
/-- [elt for tg in e], elt may change the open region -/
theorem lcSG_pre (own : List (Str × Nat)) (R : Env2) (gg : σT → GD → Prop) {en : α → D} (ey : β → D) {Q : Res → Env2 → GD → Prop}
    (h : WI X tg e r G fun ds r2 G1 => ∃ (xs : List α) (s0 : σT) (f : σT → α → Out (Option β × σT)) (kk : List β × σT → Out γ) (Q0 : γ → Prop) (E : Xm → Prop), ds = xs.map en ∧ xs.length ≤ LIM ∧ Wk (wipeD r2 (own.map (·.2))) R ∧ gg s0 G1 ∧ ((Out.compS f xs [] s0).bind kk).sat Q0 E ∧
      (∀ s x G' (Q' : Option β × σT → Prop), gg s G' → (f s x).sat Q' E → Blk X scope fun Y => WG Y tg (en x) R G' (own.map (·.2)) fun r3 G3 => Blk X scope fun Y => WE Y elt r3 G3 fun z r4 G4 => ∃ y s' r5, fz r4 z = some (ey y, r5) ∧ Wk (wipeD r5 (own.map (·.2))) R ∧ gg s' G4 ∧ Q' (some y, s')) ∧
      ∀ (p : List β × σT) G', gg p.2 G' → (kk p).sat Q0 E → Q (.fr (.lst (p.1.map ey))) R G') : LcPre X scope tg e elt [] (own.map (·.2)) r G (atR Q) :=
  h.mono fun ds r2 G1 ⟨xs, s0, f, kk, Q0, E, hd, hl, w, hg, h0, hb, hq⟩ => by
    subst hd
    refine ⟨fun k acc r3 G3 => ∃ ys s, Wk r3 R ∧ gg s G3 ∧ acc = ys.map ey ∧ ys.length ≤ k ∧ ((Out.compS f (xs.drop k) ys s).bind kk).sat Q0 E, ⟨[], s0, w, hg, rfl, Nat.le_refl _, h0⟩, fun k d acc r3 G3 hd ⟨ys, s, w3, hG, ha, hly, hq3⟩ => ?_, fun acc r3 G3 ⟨ys, s, w3, hG, ha, hly, hq3⟩ => ?_⟩
    · subst ha
      obtain ⟨x, hx, rfl⟩ := map_at hd
      have hlt : k < xs.length := (List.getElem?_eq_some_iff.mp hx).1
      rw [drop_at hx] at hq3
      have st := hb s x G3 _ hG (compS_step hq3)
      have lim : (ys.map ey).length < LIM := by rw [List.length_map]; omega
      intro Y hY
      refine WG.mono (WG.weak w3 (st Y hY)) fun r4 G4 q' => ?_
      refine fun Y hY => (q' Y hY).mono fun zz r5 G5 ⟨y, s', r6, m1, m2, m3, m4⟩ => ⟨ey y, r6, m1, lim, ys ++ [y], s', m2, m3, by rw [List.map_append]; rfl, by rw [List.length_append]; exact Nat.succ_le_succ hly, m4⟩
    · subst ha
      rw [List.length_map, List.drop_length] at hq3
      exact ⟨R, w3, (fun i z => by cases z), hq (ys, s) G3 hG hq3⟩
end
open Out (Rt)
theorem GS.keep {Ps : List As} {G G' : GD} (h : GS Ps G) (h1 : ∀ b, G b ≠ none → G' b = G b) : GS Ps G' := by
  have := (h.add (P := fun fp _ => fp = []) (fp := []) (G' := G') ⟨fun fp G e a ha => by rw [e] at ha; simp at ha, fun _ _ _ e _ => e⟩ rfl h1 (by simp)).take Ps.length
  rwa [List.take_left] at this
def RegM (G0 : GD) (rows : List (Addr × List Int)) (G : GD) : Prop := (rows.map (·.1)).Nodup ∧ (∀ p, p ∈ rows → G0 p.1 = none ∧ G p.1 = some (.lst (p.2.map D.int))) ∧ ∀ a, a ∉ rows.map (·.1) → G a = G0 a
theorem RegM.nil (G : GD) : RegM G [] G := ⟨List.nodup_nil, (fun _ h => by cases h), fun _ _ => rfl⟩
theorem RegM.add {G0 G : GD} {rows : List (Addr × List Int)} (h : RegM G0 rows G) {p : Addr} (hp : G p = none) (ns : List Int) : RegM G0 (rows ++ [(p, ns)]) (updG G p (.lst (ns.map D.int))) := by
  obtain ⟨h1, h2, h3⟩ := h
  have hn : p ∉ rows.map (·.1) := fun z => by
    obtain ⟨q, hq, e⟩ := List.mem_map.mp z
    have := (h2 q hq).2
    rw [e, hp] at this; cases this
  refine ⟨?_, fun q hq => ?_, fun a ha => ?_⟩
  · rw [List.map_append, List.nodup_append]
    refine ⟨h1, by simp, fun a ha b hb e => ?_⟩
    rw [List.map_singleton, List.mem_singleton] at hb
    subst hb; subst e; exact hn ha
  · rcases List.mem_append.mp hq with z | z
    · have hne : q.1 ≠ p := fun e => hn (e ▸ List.mem_map.mpr ⟨q, z, rfl⟩)
      exact ⟨(h2 q z).1, by rw [updG_ne hne]; exact (h2 q z).2⟩
    · rw [List.mem_singleton] at z; subst z
      exact ⟨by rw [← h3 p hn]; exact hp, updG_same⟩
  · rw [List.map_append, List.mem_append] at ha
    have hne : a ≠ p := fun e => ha (.inr (by simp [e]))
    rw [updG_ne hne]; exact h3 a fun z => ha (.inl z)
theorem RegM.at {G0 G : GD} {rows : List (Addr × List Int)} (h : RegM G0 rows G) {k : Nat} {p : Addr × List Int} (hk : rows[k]? = some p) : G p.1 = some (.lst (p.2.map D.int)) := (h.2.1 p (List.mem_of_getElem? hk)).2
theorem RegM.set {G0 G : GD} {rows : List (Addr × List Int)} (h : RegM G0 rows G) {k : Nat} {a : Addr} {ns ms : List Int} (hk : rows[k]? = some (a, ns)) : RegM G0 (rows.set k (a, ms)) (updG G a (.lst (ms.map D.int))) := by
  obtain ⟨h1, h2, h3⟩ := h
  have hm : (rows.set k (a, ms)).map (·.1) = rows.map (·.1) := by
    refine List.ext_getElem? fun j => ?_
    rw [List.getElem?_map, List.getElem?_map]
    by_cases e : k = j
    · subst e
      rw [List.getElem?_set_self (List.getElem?_eq_some_iff.mp hk).1, hk]; rfl
    · rw [List.getElem?_set_ne e]
  refine ⟨by rw [hm]; exact h1, fun q hq => ?_, fun b hb => ?_⟩
  · obtain ⟨j, hj⟩ := List.mem_iff_getElem?.mp hq
    by_cases e : k = j
    · subst e
      rw [List.getElem?_set_self (List.getElem?_eq_some_iff.mp hk).1] at hj
      cases hj
      exact ⟨(h2 _ (List.mem_of_getElem? hk)).1, updG_same⟩
    · rw [List.getElem?_set_ne e] at hj
      have hqm := List.mem_of_getElem? hj
      have hne : q.1 ≠ a := fun z => by
        have i1 : (rows.map (·.1))[j]? = some a := by rw [List.getElem?_map, hj, ← z]; rfl
        have i2 : (rows.map (·.1))[k]? = some a := by rw [List.getElem?_map, hk]; rfl
        obtain ⟨l1, e1⟩ := List.getElem?_eq_some_iff.mp i1
        obtain ⟨l2, e2⟩ := List.getElem?_eq_some_iff.mp i2
        rcases Nat.lt_or_gt_of_ne e with y | y
        · exact List.pairwise_iff_getElem.mp h1 _ _ l2 l1 y (e2.trans e1.symm)
        · exact List.pairwise_iff_getElem.mp h1 _ _ l1 l2 y (e1.trans e2.symm)
      exact ⟨(h2 q hqm).1, by rw [updG_ne hne]; exact (h2 q hqm).2⟩
  · rw [hm] at hb
    have hne : b ≠ a := fun z => hb (z ▸ List.mem_map.mpr ⟨_, List.mem_of_getElem? hk, rfl⟩)
    rw [updG_ne hne]; exact h3 b hb
open Out (Rt)
theorem bt_all : bootBuiltins "all" = some (.builtin "all") := by decide +kernel
section
variable {X : Cy} {e a b c o i : Expr} {r : Env2} {G : GD} {pos tpos apos cpos p0 : Pos} {D0 : EndsD} {κ ν : Type} [DecidableEq κ] {ek : κ → D} {f : ν → D}
/-- self.f, own data -/
theorem we_fldD {fn : Str} {C : Addr} {ns : List Str} {fs : List Fld} {d : D} {Q : Res → Env2 → GD → Prop} (c : Cls X.K C) (n : NoAttr X.K C fn) (hl : (ns.zip fs).lookup fn = some (.mo d)) (h : WE X e r G fun x r1 G1 => ∃ p fp, x = .sh (.adr p) ∧ obA C p ns fs fp G1 ∧
      ∀ a, G1 a = some d → (∀ d', obA C p ns (putFl fn (.mo d') ns fs) fp (updG G1 a d') ∧ Frm fp G1 fp (updG G1 a d')) → Q (.sh (.adr a)) r1 G1)
    (hpl : ∀ x, (putFl fn x ns fs).length = fs.length := by intro _; rfl) (hb : attributeBase e fn X.env (eval e X.env) = eval e X.env := by rfl) : WE X (.Attribute e fn pos) r G Q :=
  we_fldO (h.mono fun x r1 G1 ⟨p, fp, hx, hP, q⟩ => by
    obtain ⟨ds, as, rfl, hnd, hln, hG, hF⟩ := hP
    obtain ⟨n1, n2⟩ := List.nodup_cons.mp hnd
    obtain ⟨a, ha, h1, h2, h3⟩ := hF.mutD n2 hl
    have hpa : p ≠ a := fun z => n1 (z ▸ ha)
    refine ⟨p, C, ns, ds, .adr a, hx, hG, c, n, h1, q a h2 fun l' => ⟨⟨ds, as, rfl, hnd, by rw [hpl]; exact hln, by rw [updG_ne hpa]; exact hG, h3 l'⟩, fun b hb _ => updG_ne fun z => hb ?_, fun b hb => .inl hb⟩⟩
    rw [z]; exact List.mem_cons_of_mem _ ha) hb
/-- self.f = new data that stay one's own -/
theorem ws_fldND {fn : Str} {C : Addr} {ns : List Str} {fs : List Fld} (c : Cls X.K C) (n : NoAttr X.K C fn) (hn : ns.length < 1000) (h : WE X e r G fun y r1 G1 => ∃ d, y = .fr d ∧ ∀ a, G1 a = none → WE X o r1 (updG G1 a d) fun x r3 G3 => ∃ p fp, x = .sh (.adr p) ∧ G3 = updG G1 a d ∧ obA C p ns fs fp G1 ∧
      ∀ fp' G', obA C p (putA fn ns) (putFl fn (.mo d) ns fs) fp' G' → Frm fp G1 fp' G' → D0.nx r3 G')
    (hs : swapsWith e (some (.Attribute o fn apos)) pos.line X.env = pure false := by rfl) : WS X (.Assign [.Attribute o fn apos] e pos) r G D0 :=
  ws_fldO (we_open (h.mono fun y r1 G1 ⟨l, hy, h2⟩ => ⟨l, hy, fun a ha => ⟨.adr a, r1, rfl, (h2 a ha).mono fun x r3 G3 ⟨p, fp, hx, hG3, hP, k⟩ => by
    subst hG3
    obtain ⟨ds, as, rfl, hnd, hln, hG, hF⟩ := hP
    obtain ⟨n1, n2⟩ := List.nodup_cons.mp hnd
    have hpa : p ≠ a := fun z => by rw [z, ha] at hG; cases hG
    have haas : a ∉ as := fun z => by obtain ⟨d, hd⟩ := hF.dom a z; rw [ha] at hd; cases hd
    have hF' : FL (updG (updG G1 a l) p (.obj C (putA fn ns) (putAD fn (.adr a) ns ds))) fs ds as := hF.loc fun b hb => by
      have q1 : b ≠ p := fun z => n1 (by rw [← z]; exact hb)
      have q2 : b ≠ a := fun z => haas (by rw [← z]; exact hb)
      rw [updG_ne q1, updG_ne q2]
    obtain ⟨bs, b1, b2, b3⟩ := hF'.put n2 hln fn (.mo l) (.adr a) [a] (.mo (by rw [updG_ne (fun z => hpa z.symm), updG_same]) .nil) (fun b h => by rw [List.mem_singleton] at h; subst h; exact haas)
    refine ⟨p, C, ns, ds, hx, by rw [updG_ne hpa]; exact hG, c, n, hn, k (p :: bs) _ ⟨_, bs, rfl, List.nodup_cons.mpr ⟨fun z => ?_, b2⟩, ?_, updG_same, b1⟩ ⟨fun b hb hg => ?_, fun b hb => ?_⟩⟩
    · rcases b3 p z with y | y
      · exact n1 y
      · rw [List.mem_singleton] at y; exact hpa y
    · rw [putA_len fn (.adr a) ns ds (by rw [hln, hF.len]), b1.len]
    · have hba : b ≠ a := fun z => hg (by rw [z]; exact ha)
      rw [updG_ne (fun z => hb (by simp [z])), updG_ne hba]
    · rcases List.mem_cons.mp hb with rfl | hb
      · exact .inl List.mem_cons_self
      · rcases b3 b hb with y | y
        · exact .inl (List.mem_cons_of_mem _ y)
        · rw [List.mem_singleton] at y; subst y; exact .inr ha⟩⟩)) hs
/-- o[i] = e, o a dict of the open region -/
theorem ws_kdputG (hk : KyC ek) (hu : X.A.units + 64 < cLine)
    (h : WE X e r G fun z r1 G1 => ∃ v r2, fz r1 z = some (f v, r2) ∧ WE X o r2 G1 fun x r3 G3 => ∃ a, x = .sh (.adr a) ∧ WE X i r3 G3 fun y r4 G4 => ∃ kvs key, y = .sh (ek key) ∧ G4 a = some (eKd X.w ek f kvs) ∧ kvs.length < LIM ∧ D0.nx r4 (updG G4 a (eKd X.w ek f (dput kvs key v))))
    (hs : swapsWith e (some (.Subscript o i tpos)) pos.line X.env = pure false := by rfl) : WS X (.Assign [.Subscript o i tpos] e pos) r G D0 := fun F0 T F H σ lk S =>
  RunS.of (ps_kdput (by omega) peR peR peR hs) ((h F0 T F H σ lk S).mono fun v0 H1 ⟨z, r1, G1, F1, e1, S1, k1, v, r2, q1, h1⟩ => by
    obtain ⟨F1', e1', S1', rp⟩ := S1.fz k1 q1
    refine (h1 F0 T F1' H1 σ lk S1').mono fun vo H2 ⟨x, r3, G3, F2, e2, S2, k2, ad, hx, h2⟩ => ?_
    subst hx
    cases (show vo = .ref ad from k2)
    refine (h2 F0 T F2 H2 σ lk S2).mono fun vi H3 ⟨y, r4, G4, F3, e3, S3, k3, kvs, key, hy, hj, hl, q⟩ => ?_
    subst hy
    obtain ⟨pk, rfl⟩ := rep_tupR (isTup_of hk key) k3
    have ow0 := S3.bas.gh _ _ hj
    rw [← eKd_kdD] at ow0
    obtain ⟨us, dr, hp⟩ := kdD_own ow0
    have rv : Rep X.K F3 (f v) v0 := Rep.mono (e2.trans e3) _ _ rp
    have dr2 := dr.put (k := ek key) k3 rv
    rw [putKD_eKl hk] at dr2
    have ow := own_kdD (w := X.w) (H := upd H3 ad (KdO X.w ad (putN us (nkD (ek key)) pk v0))) dr2 upd_same
    rw [eKd_kdD] at ow
    exact ⟨ad, rfl, us, nkD (ek key), pk, rfl, hp, by rw [dr.length]; unfold eKl; rw [List.length_map]; exact lim_lt hl, dr.ky S3.bas.fh (eKl_ky hk kvs), ky_at S3.bas.fh (hk.ky key) k3, r4, _, F3, S3.gput hj ow, q⟩)
/-- all(xs), truth values -/
theorem c_all {xs : List Bool} (hc : X.calm = true) {Q : Res → Prop} (q : Q (.sh (.bl (xs.all id)))) : CallW1 X (.builtin "all") (.lst (xs.map D.bl)) Q := fun F0 T F G H r σ v S h => by
  obtain ⟨p, vs, rfl, k1, k2⟩ := h.lst S.bas.fh
  have e : vs = xs.map V.bl := by
    clear k1 h q
    induction xs generalizing vs with
    | nil => exact k2
    | cons x xs ih =>
      obtain ⟨v, vs', rfl, h1, h2⟩ := k2
      cases (show v = .bl x from h1)
      rw [ih _ h2]; rfl
  subst e
  exact ⟨_, cr_all hc, p, xs, rfl, .inl k1, .sh (.bl (xs.all id)), F, Ex.refl _, S, rfl, q⟩
end
section
variable {X : Cx} {e : Expr} {td : TE} {p pos apos cpos : Pos}
theorem pe_listKdv (hc : X.calm = true) (hg : Gl X "list") (hm : X.mg "list" = none) (he : PE X e td) (hbase : attributeBase e "values" X.env (eval e X.env) = eval e X.env) (hline : (apos.endLine == cpos.line) = true)
    (na : starEach [.Call (.Attribute e "values" apos) [] [] cpos] X.env = (false, eval (.Call (.Attribute e "values" apos) [] [] cpos) X.env) :: starEach [] X.env := by rfl) :
    PE X (.Call (.Name "list" p) [.Call (.Attribute e "values" apos) [] [] cpos] [] pos) (fun σ H Q => td σ H fun v H1 => ∃ d o us, v = .ref d ∧ H1 d = some (.frz o (KdO X.w d us)) ∧ ∀ q, H1 q = none → Q (.ref q) (upd H1 q (.lst (us.map (·.2.2))))) := by
  refine ⟨fun pins s σ H Q I h => ?_⟩
  refine Call_ (ld_blt I hg hm boot_list (PyProof.Rows.callWith_type1 (args_cons ?_ na) na))
  refine wpAny_Call_method (T := "dict") (id := "dict.values") hbase rfl hline PySem.F.plainAttrs_dict PySem.F.slot_dict_values PySem.F.type_dict_values (thn (he.run pins s σ H _ I h) fun u s1 ⟨x, H1, I1, rx, d, o, us, ex, hd, q⟩ => ?_)
  subst ex
  obtain rfl : u = Value.ref d := rx
  obtain ⟨hs, hgd, hx, hln, es, ep, hdt, hsz, ent⟩ := kd_locked I1 hd
  have ty : s1.TypeIs (.ref d) "dict" := ⟨o, hgd, hx.1⟩
  refine ⟨ty, fun b q => by cases q; exact ⟨o, hgd, hx.2.1⟩, ?_⟩
  have I2 : Inv X pins σ H1 { s1 with heap := s1.heap.push { cls := .type "dict_values", data := .fields #[.ref d] } } := I1.kept (t' := s1.toks) fun b ob q => Heap.get?_push_of_some _ q
  have raw : (s1.heap.push { cls := .type "dict_values", data := .fields #[.ref d] }).DictRaw d es ep := ⟨o, Heap.get?_push_of_some _ hgd, hx, hdt⟩
  show wpAny _ _ (callWith cpos (.builtin "dict.values") [.ref d] [] []) _ X.xe s1
  refine method_meetsIn PySem.F.slot_dict_values PySem.F.entry_dict_values rfl (PySem.evalArgs_none ⟨rfl, ty, PySem.F.args_dict_values_1 _, _, PySem.meets_dict_values_raw d hs, ⟨⟨es, ep, o, hgd, hx, hdt⟩, args_nil ?_⟩⟩)
  refine PySem.W.kdl_call PySem.KdlSrc.rawValues (I2.ok.hd hc) ⟨⟨_, Heap.get?_push_size _ rfl, rfl, rfl⟩, raw⟩ (by rw [hsz]; exact hln) fun h' tk acc c' hk e' hi => ?_
  have hv : Vals (us.map (·.2.2)) acc.toList := vals_of_at (by rw [List.length_map, Array.length_toList]; exact (hi.1.trans hsz).symm) fun j x u h1 h2 => by
    rw [List.getElem?_map] at h1
    cases hq : us[j]? with
    | none => rw [hq] at h1; cases h1
    | some q =>
      rw [hq] at h1; cases h1
      obtain ⟨en, hen, _, hval⟩ := ent j q hq
      obtain ⟨hj, e2⟩ := hi.2 j u (by rw [← Array.getElem?_toList]; exact h2)
      rw [Array.getElem?_eq_getElem hj] at hen
      cases hen
      rw [e2]; exact hval
  exact ⟨.ref _, upd H1 _ (.lst (us.map (·.2.2))), I2.laid hk (Nat.le_refl _) (show ObjOk X.prog X.w _ _ _ (.lst (us.map (·.2.2))) from ⟨by rw [List.length_map]; exact hln, acc.toList, c', hv, by rw [Array.toArray_toList]; exact e'⟩), rfl, q _ (I2.hok.fresh (Nat.le_refl _))⟩
end
section
variable {X : Cy} {e : Expr} {p pos apos cpos : Pos}
theorem we_listValsK {r : Env2} {G : GD} {κ ν : Type} {ek : κ → D} {f : ν → D} {Q : Res → Env2 → GD → Prop} (hc : X.calm = true) (hg : Gl X "list") (hm : X.mg "list" = none) (h : WE X e r G fun x r1 G1 => ∃ kvs r2, fz r1 x = some (eKd X.w ek f kvs, r2) ∧ ((kvs.map (·.2)).length ≤ LIM → Q (.fr (.lst ((kvs.map (·.2)).map f))) r2 G1))
    (hbase : attributeBase e "values" X.env (eval e X.env) = eval e X.env := by rfl) (hline : (apos.endLine == cpos.line) = true := by rfl)
    (na : starEach [.Call (.Attribute e "values" apos) [] [] cpos] X.env = (false, eval (.Call (.Attribute e "values" apos) [] [] cpos) X.env) :: starEach [] X.env := by rfl) :
    WE X (.Call (.Name "list" p) [.Call (.Attribute e "values" apos) [] [] cpos] [] pos) r G Q := fun F0 T F H σ lk S =>
  Run.of (pe_listKdv hc hg hm peR hbase hline na) ((h F0 T F H σ lk S).blK.mono fun v H1 ⟨bl, x, r1, G1, F1, e1, S1, k1, kvs, r2, q1, q2⟩ => by
    obtain ⟨rfl, d', rfl, rfl⟩ := fz_dic rfl q1
    obtain ⟨a, ob, us, rfl, z1, z2, z3, z4⟩ := k1
    have hl : (kvs.map (·.2)).length = us.length := by have := z4.length; rw [List.length_map, List.length_map] at this; rw [List.length_map]; exact this.symm
    refine ⟨a, ob, us, rfl, S1.bas.fh _ _ z1, fun l hl' => ?_⟩
    obtain ⟨x', F', f1, f2, f3, f4⟩ := new_lst S1 (ds := (kvs.map (·.2)).map f) (vs := us.map (·.2.2)) (by rw [List.map_map]; exact z4) hl' (Q := fun z => Q z r2 G1) (q2 (by rw [hl]; exact bl a us (.inr ⟨ob, S1.bas.fh _ _ z1⟩)))
    exact ⟨x', r2, G1, F', e1.trans f1, f2, f3, f4⟩)
end
open Out (Rt)
open Out (Rt)
def LeafV (v : Value) : Prop := (∃ i t, v = Value.int i t) ∨ ∃ c, v = Value.bool c
def FlatT (h : Heap) (b : Addr) : Prop := ∃ o vs n, h.get? b = some o ∧ o.cls = .type "tuple" ∧ o.data = .seq vs n ∧ ∀ v ∈ vs.toList, LeafV v
/-- the tuple at b is the key k, and flat -/
structure FK (P : Program) (w : World) (h : Heap) (k : NestedKey) (b : Addr) : Prop where
  is : (nestedKind P w).is h k b
  flat : FlatT h b
abbrev FRow := NestedKey × Addr
def rowN (w : World) (p : FRow) : Int × Value := (p.1.hash w, .ref p.2)
section
variable {P : Program} {w : World} {A : Around} {E : Value → Shared → Prop} {s : Shared} {k k' : NestedKey} {a b c : Addr} {L : List FRow}
theorem FK.seqs {h h' : Heap} (x : FK P w h k b) (hk : ∀ c o vs n, h.get? c = some o → o.data = .seq vs n → h'.get? c = some o) : FK P w h' k b where
  is := nestedKind_stays.stays hk x.is
  flat := by
    obtain ⟨o, vs, n, e, c, d, r⟩ := x.flat
    exact ⟨o, vs, n, hk _ _ _ _ e d, c, d, r⟩
theorem FK.more {h h' : Heap} (x : FK P w h k b) (hk : ∀ c o, h.get? c = some o → h'.get? c = some o) : FK P w h' k b := x.seqs fun c o _ _ e _ => hk c o e
/-- a set that changes leaves the tuples -/
theorem FK.beside {h h' : Heap} {o : Obj} {es : Array (Int × Value)} {ep : Nat} {t : SetTable} (x : FK P w h k b) (ho : h.get? a = some o) (hd : o.data = .set es ep t) (sb : Heap.SameBut a h h') : FK P w h' k b :=
  x.seqs fun c oc vs n e ed => (sb.2 c fun z => by subst z; rw [ho] at e; cases e; rw [hd] at ed; cases ed).trans e
theorem leaf_class (n : Nat) {v : Value} (h : LeafV v) : ofAClassStatement n v = pure false := by
  rcases h with ⟨i, t, rfl⟩ | ⟨c, rfl⟩ <;> cases n <;> rfl
theorem leaf_hash (n : Nat) {v : Value} (h : LeafV v) : hashByValue n v = pure true := by
  rcases h with ⟨i, t, rfl⟩ | ⟨c, rfl⟩ <;> cases n <;> rfl
theorem FlatT.type {b : Addr} (h : FlatT s.heap b) : s.TypeIs (.ref b) "tuple" := by
  obtain ⟨o, vs, n, e, c, _⟩ := h
  exact ⟨o, e, c⟩
theorem flat_class {Q : Bool → Shared → Prop} (h : FlatT s.heap b) (q : Q false s) : wpAny (model P w) A (ofAClassStatement 8 (.ref b)) Q E s := by
  have hT := h.type
  obtain ⟨o, vs, n, ho, _, hd, hl⟩ := h
  have tt : ((("tuple" : String) == "tuple") = true) := by decide
  unfold ofAClassStatement
  refine wpAny_bind (wpAny_typeOf hT ?_)
  dsimp only
  simp only [tt, if_true, Bool.not_true, Bool.false_eq_true, if_false]
  try refine wpAny_bind (wpAny_pure ?_)
  try simp only [Bool.not_true, Bool.false_eq_true, if_false]
  show wpAny _ _ (seqItems? (.ref b) >>= _) _ _ s
  refine wpAny_bind (wpAny_seqItems ho hd ?_)
  dsimp only
  refine wpAny_bind ?_
  show wpAny _ _ (forIn vs _ _) _ _ s
  rw [← Array.forIn_toList]
  refine wpAny_forIn_list _ (fun rest r s' => (∀ v ∈ rest, LeafV v) ∧ r.1 = none ∧ s' = s) _ ?_ ?_ _ _ ⟨hl, rfl, rfl⟩
  · rintro v rest r s' ⟨hv, hr, rfl⟩
    rw [leaf_class _ (hv v List.mem_cons_self)]
    refine wpAny_bind (wpAny_pure ?_)
    simp only [Bool.false_eq_true, if_false]
    exact wpAny_pure ⟨fun u hu => hv u (List.mem_cons_of_mem _ hu), rfl, rfl⟩
  · rintro ⟨r1, r2⟩ s' ⟨_, hr, rfl⟩
    simp only at hr
    subst hr
    exact wpAny_pure q
theorem flat_hash {Q : Bool → Shared → Prop} (h : FlatT s.heap b) (q : Q true s) : wpAny (model P w) A (hashByValue 8 (.ref b)) Q E s := by
  have hT := h.type
  obtain ⟨o, vs, n, ho, _, hd, hl⟩ := h
  unfold hashByValue
  refine wpAny_bind (wpAny_specialOf hT F.slot_tuple_hash.lookup ?_)
  show wpAny _ _ (seqItems? (.ref b) >>= _) _ _ s
  refine wpAny_bind (wpAny_seqItems ho hd ?_)
  refine wpAny_bind ?_
  show wpAny _ _ (forIn vs _ _) _ _ s
  rw [← Array.forIn_toList]
  refine wpAny_forIn_list _ (fun rest r s' => (∀ v ∈ rest, LeafV v) ∧ r.1 = none ∧ s' = s) _ ?_ ?_ _ _ ⟨hl, rfl, rfl⟩
  · rintro v rest r s' ⟨hv, hr, rfl⟩
    rw [leaf_hash _ (hv v List.mem_cons_self)]
    refine wpAny_bind (wpAny_pure ?_)
    simp only [Bool.not_true, Bool.false_eq_true, if_false]
    exact wpAny_pure ⟨fun u hu => hv u (List.mem_cons_of_mem _ hu), rfl, rfl⟩
  · rintro ⟨r1, r2⟩ s' ⟨_, hr, rfl⟩
    simp only at hr
    subst hr
    exact wpAny_pure q
theorem flat_unseen {Q : Bool → Shared → Prop} (hx : FK P w s.heap k b) {ys : List Value} (hy : ∀ y ∈ ys, ∃ k' c, y = Value.ref c ∧ FK P w s.heap k' c) (q : Q false s) : wpAny (model P w) A (searchCouldBeSeen (.ref b) ys) Q E s := by
  unfold searchCouldBeSeen
  refine wpAny_bind (wpAny_forIn_list _ (fun rest r s' => (∀ y ∈ rest, ∃ k' c, y = Value.ref c ∧ FK P w s.heap k' c) ∧ r.1 = none ∧ s' = s) _ ?_ ?_ _ _ ⟨hy, rfl, rfl⟩)
  · rintro v rest r s' ⟨hv, hr, rfl⟩
    obtain ⟨k', c, rfl, hc⟩ := hv v List.mem_cons_self
    have tl := fun u hu => hv u (List.mem_cons_of_mem _ hu)
    dsimp only
    by_cases z : (b == c || (carriedByValue (.ref b) && carriedByValue (.ref c))) = true
    · exact wp_if_pos z (wpAny_pure ⟨tl, rfl, rfl⟩)
    · refine wp_if_neg z (wpAny_bind ((nestedKind P w).quiet hx.is ?_))
      simp only [Bool.not_true, Bool.false_eq_true, if_false]
      refine wpAny_bind ((nestedKind P w).quiet hc.is ?_)
      simp only [Bool.not_true, Bool.false_eq_true, if_false]
      refine wpAny_bind (flat_class hx.flat ?_)
      simp only [Bool.false_eq_true, if_false]
      refine wpAny_bind (flat_class hc.flat ?_)
      simp only [Bool.false_eq_true, if_false]
      exact wpAny_pure ⟨tl, rfl, rfl⟩
  · rintro ⟨r1, r2⟩ s' ⟨_, hr, rfl⟩
    simp only at hr
    subst hr
    exact wpAny_pure q
end
/-- the set at a holds the rows of L, in the order of its table t -/
structure NS (P : Program) (w : World) (h : Heap) (a : Addr) (L : List FRow) (es : Array (Int × Value)) (ep : Nat) (t : SetTable) : Prop where
  obj : ∃ o, h.get? a = some o ∧ o.ExactSet ∧ o.data = .set es ep t
  rows : es.toList = L.map (rowN w)
  tab : TabOk t (L.map fun p => p.1.hash w)
  diff : (L.map (·.1)).Nodup
  tup : ∀ p ∈ L, FK P w h p.1 p.2
  plain : t.plain = true
  led : w.params.followText "set-order" = true ∨ t.led = true
  room : L.length * 5 < t.mask * 3
section
variable {P : Program} {w : World} {A : Around} {E : Value → Shared → Prop} {s : Shared} {k : NestedKey} {a b : Addr} {L : List FRow} {es : Array (Int × Value)} {ep : Nat} {t : SetTable}
theorem NS.len (R : NS P w s.heap a L es ep t) : es.size = L.length := by
  rw [← Array.length_toList, R.rows, List.length_map]
theorem NS.placed (R : NS P w s.heap a L es ep t) : t.place.toList.length = L.length := by
  rw [Array.length_toList, R.tab.sz, List.length_map]
theorem NS.fits (R : NS P w s.heap a L es ep t) : t.fits es.size = true := by
  have h1 := R.placed
  have h2 := R.len
  have h3 := R.room
  rw [Array.length_toList] at h1
  unfold SetTable.fits SetTable.fill
  rw [R.tab.dm, Bool.and_eq_true, beq_iff_eq, decide_eq_true_eq]
  show t.place.size = es.size ∧ t.place.size + 0 ≤ t.mask
  omega
theorem NS.ent (R : NS P w s.heap a L es ep t) {i : Nat} {p : FRow} (h : L[i]? = some p) : es[i]? = some (rowN w p) := by
  rw [← Array.getElem?_toList, R.rows, List.getElem?_map, h]; rfl
theorem NS.stays (R : NS P w s.heap a L es ep t) : ¬ t.gaveWay = true := by
  unfold SetTable.gaveWay
  rw [mask_odd R.tab.mok]; decide
/-- the hash that stands at a place of the table -/
abbrev hashAt (es : Array (Int × Value)) (i : Nat) : Int := (es[i]?.map (·.1)).getD 0
theorem NS.hash (R : NS P w s.heap a L es ep t) {i : Nat} {p : FRow} (h : L[i]? = some p) : hashAt es i = p.1.hash w := by
  unfold hashAt; rw [R.ent h]; rfl
/-- step c of the way of a hash -/
abbrev stepN (t : SetTable) (h : Int) (c : Nat) : SetTable.Probe := nth t.mask (runAt t.mask (SetTable.bits h % (t.mask + 1)) (SetTable.bits h)) c
theorem nth_pure (m : Nat) : ∀ (n : Nat) (p : SetTable.Probe), p.dummy = none → (nth m p n).dummy = none
  | 0, _, h => h
  | n + 1, p, h => nth_pure m n _ (by unfold adv; split <;> exact h)
theorem stepN_on (t : SetTable) (h : Int) (c q : Nat) : nth t.mask (stepN t h c) q = stepN t h (c + q) := (nth_add t.mask c _ q).symm
/-- a row with this key comes at or behind step c -/
def Ahead (t : SetTable) (L : List FRow) (k : NestedKey) (h : Int) (c K : Nat) : Prop := ∀ (i : Nat) (p : FRow), L[i]? = some p → p.1 = k → ∃ c', c ≤ c' ∧ c' < K ∧ t.place.toList[i]? = some (way t.mask h c')
/-- one look at the table from step c on: the empty slot, or a row of the same hash whose step is known -/
theorem NS.look (R : NS P w s.heap a L es ep t) (k : NestedKey) {K c : Nat} (hKf : K < 10 * SetTable.turns t.mask) (hK : way t.mask (k.hash w) K ∉ t.place.toList) (hB : ∀ c, c < K → way t.mask (k.hash w) c ∈ t.place.toList) (hc : c ≤ K) (hA : Ahead t L k (k.hash w) c K) :
    (k ∉ L.map (·.1) ∧ t.probe (hashAt es) (k.hash w) (stepN t (k.hash w) c) = some (.empty (way t.mask (k.hash w) K) none)) ∨
    ∃ d i p, c ≤ d ∧ d < K ∧ L[i]? = some p ∧ t.place.toList[i]? = some (way t.mask (k.hash w) d) ∧ t.slot (way t.mask (k.hash w) d) = .live i ∧ (p.1 ≠ k → Ahead t L k (k.hash w) (d + 1) K) ∧
      t.probe (hashAt es) (k.hash w) (stepN t (k.hash w) c) = some (.candidate (way t.mask (k.hash w) d) i (stepN t (k.hash w) (d + 1))) := by
  have jj : ∀ q, (nth t.mask (stepN t (k.hash w) c) q).j = way t.mask (k.hash w) (c + q) := fun q => congrArg SetTable.Probe.j (stepN_on t _ c q)
  have cK : c + (K - c) = K := by omega
  rcases go_spec t R.tab.ris R.tab.dm (hashAt es) (k.hash w) (10 * SetTable.turns t.mask) (K - c) (stepN t (k.hash w) c) (nth_pure _ _ _ rfl) (by omega) (fun q hq => by rw [jj]; exact hB _ (by omega)) (by rw [jj, cK]; exact hK) with ⟨q, i, hq, hi, hh, hno, hp⟩ | ⟨hno, hp⟩
  · right
    rw [jj] at hi
    have hil : i < L.length := by rw [← R.placed]; exact (List.getElem?_eq_some_iff.mp hi).1
    obtain ⟨p, hpi⟩ : ∃ p, L[i]? = some p := ⟨_, List.getElem?_eq_getElem hil⟩
    refine ⟨c + q, i, p, Nat.le_add_right _ _, by omega, hpi, hi, slot_live R.tab.ris hi, fun hne i' p' h1 h2 => ?_, ?_⟩
    · obtain ⟨c', a1, a2, a3⟩ := hA i' p' h1 h2
      refine ⟨c', ?_, a2, a3⟩
      by_cases z : c' < c + q
      · exact absurd ((R.hash h1).trans (congrArg (NestedKey.hash w) h2)) (hno (c' - c) i' (by omega) (by rw [jj, show c + (c' - c) = c' by omega]; exact a3))
      · by_cases y : c' = c + q
        · subst y
          have e := (slot_live R.tab.ris a3).symm.trans (slot_live R.tab.ris hi)
          injection e with e
          subst e
          rw [hpi] at h1
          cases h1
          exact absurd h2 hne
        · omega
    · unfold SetTable.probe
      have e2 := stepN_on t (k.hash w) c (q + 1)
      rw [jj, e2] at hp
      exact hp
  · left
    refine ⟨fun hm => ?_, ?_⟩
    · obtain ⟨p, hp1, hp2⟩ := List.mem_map.mp hm
      obtain ⟨i, hi⟩ := List.getElem?_of_mem hp1
      obtain ⟨c', a1, a2, a3⟩ := hA i p hi hp2
      exact hno (c' - c) i (by omega) (by rw [jj, show c + (c' - c) = c' by omega]; exact a3) ((R.hash hi).trans (congrArg (NestedKey.hash w) hp2))
    · unfold SetTable.probe
      rw [jj, cK] at hp
      exact hp
end
section
variable {P : Program} {w : World} {A : Around} {E : Value → Shared → Prop} {s : Shared} {k : NestedKey} {a b : Addr} {L : List FRow} {es : Array (Int × Value)} {ep : Nat} {t : SetTable}
theorem NS.search (R : NS P w s.heap a L es ep t) (hx : FK P w s.heap k b) (hu : A.units + 8 < cLine) {K : Nat} (hKf : K < 10 * SetTable.turns t.mask) (hK : way t.mask (k.hash w) K ∉ t.place.toList) (hB : ∀ c, c < K → way t.mask (k.hash w) c ∈ t.place.toList)
    {Q : SetFound → Shared → Prop} (hin : k ∈ L.map (·.1) → Q (.there none) s) (hout : k ∉ L.map (·.1) → Q (.free (way t.mask (k.hash w) K) false) s) :
    ∀ (f c : Nat) (st : Option SetTable.Probe), c ≤ K → K < c + f → st.getD (t.probeStart (k.hash w)) = stepN t (k.hash w) c → Ahead t L k (k.hash w) c K → wpAny (model P w) A (setSearchFrom a (.ref b) (k.hash w) true f st) Q E s := by
  obtain ⟨o, ho, hex, hd⟩ := R.obj
  intro f
  induction f with
  | zero => intro c st h1 h2; omega
  | succ f ih =>
    intro c st hc hf hst hA
    rw [setSearchFrom_succ]
    refine wpAny_bind (wpAny_setState_of ho hd R.fits ?_)
    dsimp only
    refine wp_if_neg R.stays ?_
    try refine wpAny_bind (wpAny_pure ?_)
    rw [hst]
    rcases R.look k hKf hK hB hc hA with ⟨hno, hp⟩ | ⟨d, i, p, h1, h2, hpi, hpl, hsl, hA', hp⟩
    · unfold hashAt at hp
      rw [hp]
      exact wpAny_pure (hout hno)
    · unfold hashAt at hp
      rw [hp]
      dsimp only
      have hmem := List.mem_of_getElem? hpi
      have go : wpAny (model P w) A (searchRest a (.ref b) (k.hash w) true f es t (way t.mask (k.hash w) d) i (stepN t (k.hash w) (d + 1))) Q E s := by
        unfold searchRest
        rw [R.ent hpi]
        show wpAny _ _ (holding [Value.ref p.2] (eqBool (.ref p.2) (.ref b)) >>= _) _ _ s
        refine wpAny_bind (wpAny_holding ((nestedKind P w).eqBool hu (R.tup p hmem).is hx.is ?_))
        refine wpAny_bind (wpAny_setState_of ho hd R.fits ?_)
        dsimp only
        by_cases z : p.1 = k
        · exact wp_if_pos (by simp [z]) (wpAny_pure (hin (List.mem_map.mpr ⟨p, hmem, z⟩)))
        · refine wp_if_neg (by simp [z]) ?_
          try refine wpAny_bind (wpAny_pure ?_)
          rw [show t.sameMemory t.moves t.mask = some true from if_pos (beq_self_eq_true _)]
          simp only [if_true, hsl, R.ent hpi, rowN]
          refine wpAny_bind (wpAny_isSame_ref_self (wpAny_bind (wpAny_pure ?_)))
          simp only [if_true]
          refine wp_if_neg (by simp [z]) ?_
          exact ih (d + 1) _ (by omega) (by omega) rfl (hA' z)
      by_cases z : t.led = true
      · refine wp_if_neg (by simp [z]) ?_
        try refine wpAny_bind (wpAny_pure ?_)
        exact go
      · refine wp_if_pos (by simp [z]) (wpAny_bind (flat_unseen hx (fun y hy => ?_) ?_))
        · obtain ⟨e, he, rfl⟩ := List.mem_map.mp hy
          have he' : e ∈ es.toList := by
            have : e ∈ es ∧ e.1 = k.hash w := by simpa using he
            simpa using this.1
          rw [R.rows] at he'
          obtain ⟨p2, q1, rfl⟩ := List.mem_map.mp he'
          exact ⟨p2.1, p2.2, rfl, R.tup p2 q1⟩
        · refine wp_if_neg (by decide) ?_
          try refine wpAny_bind (wpAny_pure ?_)
          exact go
theorem NS.find (R : NS P w s.heap a L es ep t) (hx : FK P w s.heap k b) (hu : A.units + 8 < cLine) {Q : SetFound → Shared → Prop} (hin : k ∈ L.map (·.1) → Q (.there none) s)
    (hout : ∀ K, k ∉ L.map (·.1) → way t.mask (k.hash w) K ∉ t.place.toList → (∀ c, c < K → way t.mask (k.hash w) c ∈ t.place.toList) → Q (.free (way t.mask (k.hash w) K) false) s) :
    wpAny (model P w) A (setSearch a (.ref b) (k.hash w) true) Q E s := by
  have hr := R.room
  obtain ⟨K, hKf, hK, hB⟩ := R.tab.first (by rw [List.length_map]; omega) (k.hash w)
  have hb : 10 * SetTable.turns t.mask ≤ 1420 := by
    unfold SetTable.turns
    rcases R.tab.mok with e | e | e <;> rw [e] <;> decide
  unfold setSearch
  refine R.search hx hu hKf hK hB hin (fun h => hout K h hK hB) 100000 0 none (Nat.zero_le _) (by omega) rfl fun i p h1 h2 => ?_
  have hil : i < t.place.toList.length := by rw [R.placed]; exact (List.getElem?_eq_some_iff.mp h1).1
  have hj := List.getElem?_eq_getElem hil
  obtain ⟨c, h3, h4⟩ := R.tab.before (h := k.hash w) hK (i := i) (by rw [List.getElem?_map, h1, ← h2]; rfl) hj
  exact ⟨c, Nat.zero_le _, h3, by rw [hj, h4]⟩
theorem range_pick {α : Type} : ∀ l : List α, (List.range l.length).filterMap (fun i => l[i]?) = l
  | [] => rfl
  | x :: l => by
    rw [List.length_cons, List.range_succ_eq_map, List.filterMap_cons_some (f := fun i => (x :: l)[i]?) (a := 0) (b := x) rfl, List.filterMap_map]
    exact congrArg (x :: ·) (range_pick l)
theorem pick_map {α β : Type} (f : α → β) (l : List α) : ∀ o : List Nat, o.filterMap (fun i => (l.map f)[i]?) = (o.filterMap fun i => l[i]?).map f
  | [] => rfl
  | i :: o => by
    have ih := pick_map f l o
    rw [List.filterMap_cons, List.filterMap_cons, List.getElem?_map]
    cases l[i]? with
    | none => exact ih
    | some x => exact congrArg (f x :: ·) ih
theorem pick_getD {α β : Type} [Inhabited β] (f : α → β) (l : List α) (g : Nat → β) (hg : ∀ i x, l[i]? = some x → g i = f x) : ∀ o : List Nat, (∀ i ∈ o, i < l.length) → o.map g = (o.filterMap fun i => l[i]?).map f
  | [], _ => rfl
  | i :: o, h => by
    have e := List.getElem?_eq_getElem (h i List.mem_cons_self)
    rw [List.filterMap_cons, e, List.map_cons, pick_getD f l g hg o fun j hj => h j (List.mem_cons_of_mem _ hj), hg i _ e]
    rfl
/-- all rows laid anew in a table of 32 places -/
theorem ns_relay {o : Obj} (ho : s.heap.get? a = some o) (hex : o.ExactSet) (hd : o.data = .set es ep t) (hrows : es.toList = L.map (rowN w)) (hf : t.fits es.size = true) (diff : (L.map (·.1)).Nodup) (tup : ∀ p ∈ L, FK P w s.heap p.1 p.2)
    (pl : t.plain = true) (ld : w.params.followText "set-order" = true ∨ t.led = true) (h5 : L.length = 5) {Q : Unit → Shared → Prop}
    (q : ∀ h' L' es' ep' t', Heap.SameBut a s.heap h' → NS P w h' a L' es' ep' t' → L'.Perm L → Q () { s with heap := h' }) : wpAny (model P w) A (setRelay a (SetTable.grown 5)) Q E s := by
  have hn : es.size = 5 := by rw [← Array.length_toList, hrows, List.length_map, h5]
  obtain ⟨t', ord, e1, e2, T, e3, e4, e5, e6⟩ := relaid_ok t (hs := es.map (·.1)) (wanted := SetTable.grown 5) (M := 31) (by rw [size_20]) (.inr (.inl rfl)) (by rw [Array.size_map, hn]; decide)
  rw [Array.size_map, hn, ← h5] at e2
  have hin : ∀ i ∈ ord.toList, i < L.length := fun i hi => List.mem_range.mp (e2.mem_iff.mp hi)
  have eg : ∀ i : Nat, es[i]? = (L.map (rowN w))[i]? := fun i => by rw [← Array.getElem?_toList, hrows]
  have hes : (ord.filterMap (es[·]?)).toList = (ord.toList.filterMap fun i => L[i]?).map (rowN w) := by
    rw [Array.toList_filterMap, ← pick_map]
    exact congrArg (fun f => List.filterMap f ord.toList) (funext eg)
  have hpm : (ord.toList.filterMap fun i => L[i]?).Perm L := by
    have := e2.filterMap (fun i => L[i]?)
    rwa [range_pick] at this
  rw [pick_getD (fun p : FRow => p.1.hash w) L _ (fun i x hx => by
    have e : (es.map (·.1))[i]? = some (x.1.hash w) := by rw [Array.getElem?_map, eg, List.getElem?_map, hx]; rfl
    simp [Array.getD_eq_getD_getElem?, e]) _ hin] at T
  generalize (ord.toList.filterMap fun i => L[i]?) = L' at hes hpm T
  have hsz : (ord.filterMap (es[·]?)).size = 5 := by rw [← Array.length_toList, hes, List.length_map, hpm.length_eq, h5]
  rw [setRelay_eq]
  refine wpAny_bind (wpAny_setState_of ho hd hf ?_)
  dsimp only
  refine wp_if_neg (by rw [size_20, sizeLine_eq]; omega) ?_
  try refine wpAny_bind (wpAny_pure ?_)
  rw [e1]
  dsimp only
  refine wpAny_bind (wp_if_neg (by rw [hsz, hn]; simp) ?_)
  try refine wpAny_bind (wpAny_pure ?_)
  refine wpAny_pure ?_
  dsimp only
  refine wpAny_storeSet_of ho hd ?_ (by rw [hsz, sizeLine_eq]; omega)
  have sb : Heap.SameBut a s.heap (s.heap.update a (Obj.putSet (ord.filterMap (es[·]?)) t')) := Heap.SameBut.update ..
  exact q _ L' _ (ep + 1) t' sb ⟨⟨_, store_at ho hd, ⟨hex.1, hex.2.1, hex.2.2⟩, rfl⟩, hes, T, (hpm.map (·.1)).nodup_iff.mpr diff, fun p hp => (tup p (hpm.mem_iff.mp hp)).beside ho hd sb, by rw [e5]; exact pl, by rw [e4]; exact ld, by rw [hpm.length_eq, h5, e3]; decide⟩ hpm
/-- what a set holds when k was put into L -/
def Put (L : List FRow) (k : NestedKey) (b : Addr) (L' : List FRow) : Prop := (k ∈ L.map (·.1) → L' = L) ∧ (k ∉ L.map (·.1) → L'.Perm ((k, b) :: L))
theorem NS.put (R : NS P w s.heap a L es ep t) (hx : FK P w s.heap k b) (hu : A.units + 8 < cLine) (few : k ∉ L.map (·.1) → L.length < 18) {Q : Bool → Shared → Prop}
    (q : ∀ z h' L' es' ep' t', Heap.SameBut a s.heap h' → NS P w h' a L' es' ep' t' → Put L k b L' → Q z { s with heap := h' }) : wpAny (model P w) A (setAddHashed a (.ref b) (k.hash w)) Q E s := by
  obtain ⟨o, ho, hex, hd⟩ := R.obj
  have hlen := R.len
  have hroom := R.room
  unfold setAddHashed
  refine wpAny_holding ?_
  rw [show (100000 : Nat) = 99999 + 1 from rfl, setAddHashedIn_succ]
  refine wpAny_bind (wpAny_setState_of ho hd R.fits ?_)
  dsimp only
  refine wp_if_neg (by simp [byScan, Value.scannable]) ?_
  try refine wpAny_bind (wpAny_pure ?_)
  refine wpAny_bind (R.find hx hu (fun hm => ?_) fun K hm hK hB => ?_)
  · exact wpAny_pure (q false s.heap L es ep t (Heap.SameBut.refl a s.heap) R ⟨fun _ => rfl, fun z => absurd hm z⟩)
  have few := few hm
  dsimp only
  refine wpAny_bind (wpAny_setState_of ho hd R.fits ?_)
  dsimp only
  obtain ⟨g1, g2, g3, g4, g5, g6, g7, g8, g9⟩ := R.tab.put hK hB
  rw [List.length_map] at g2 g9
  generalize hj : way t.mask (k.hash w) K = j at g1 g2 g3 g4 g5 g6 g7 g8 g9 ⊢
  generalize hn : SetTable.below t.place j = n at g1 g2 g3
  generalize hp : t.put j = tp at g1 g3 g4 g5 g6 g7 g8 g9 ⊢
  obtain ⟨t1, n1⟩ := tp
  dsimp only at g1 g3 g4 g5 g6 g7 g8 g9 ⊢
  subst g1
  have pl1 : t1.plain = true := g6.trans R.plain
  have ld1 : w.params.followText "set-order" = true ∨ t1.led = true := by rw [g5]; exact R.led
  first
    | (refine wpAny_bind ?_; refine wp_if_pos pl1 ?_; refine flat_hash hx.flat ?_)
    | refine wp_if_pos pl1 (wpAny_bind (flat_hash hx.flat ?_))
  simp only [if_true]
  have pm : (L.take n1 ++ (k, b) :: L.drop n1).Perm ((k, b) :: L) := by
    have h : (L.take n1 ++ (k, b) :: L.drop n1).Perm ((k, b) :: (L.take n1 ++ L.drop n1)) := List.perm_middle
    rwa [List.take_append_drop] at h
  have hin : (SetTable.insertAt es n1 (k.hash w, Value.ref b)).toList = (L.take n1 ++ (k, b) :: L.drop n1).map (rowN w) := by
    rw [SetTable.toList_insertAt, R.rows, List.map_append, List.map_cons, List.map_take, List.map_drop]; rfl
  have hh : (L.map fun p => p.1.hash w).take n1 ++ k.hash w :: (L.map fun p => p.1.hash w).drop n1 = (L.take n1 ++ (k, b) :: L.drop n1).map fun p => p.1.hash w := by
    rw [List.map_append, List.map_cons, List.map_take, List.map_drop]
  rw [hh] at g3
  generalize L.take n1 ++ (k, b) :: L.drop n1 = L1 at pm hin g3
  generalize SetTable.insertAt es n1 (k.hash w, Value.ref b) = es1 at hin ⊢
  have l1 : L1.length = L.length + 1 := pm.length_eq
  have hs1 : es1.size = L.length + 1 := by rw [← Array.length_toList, hin, List.length_map, l1]
  have diff1 : (L1.map (·.1)).Nodup := (pm.map (·.1)).nodup_iff.mpr (List.nodup_cons.mpr ⟨hm, R.diff⟩)
  refine wpAny_bind (wpAny_storeSet_of ho hd ?_ (by rw [hs1, sizeLine_eq]; omega))
  have sb : Heap.SameBut a s.heap (s.heap.update a (Obj.putSet es1 t1)) := Heap.SameBut.update ..
  have ho1 := store_at (es' := es1) (t' := t1) ho hd
  generalize s.heap.update a (Obj.putSet es1 t1) = h1 at sb ho1 ⊢
  have tup1 : ∀ p ∈ L1, FK P w h1 p.1 p.2 := fun p hp => by
    rcases List.mem_cons.mp (pm.mem_iff.mp hp) with e | hp
    · subst e; exact hx.beside ho hd sb
    · exact (R.tup p hp).beside ho hd sb
  have put1 : Put L k b L1 := ⟨fun z => absurd z hm, fun _ => pm⟩
  have ftf : t1.tooFull = decide ((L.length + 1) * 5 ≥ t.mask * 3) := by
    unfold SetTable.tooFull
    rw [g9, g4]
  by_cases z : t1.tooFull = true
  · have hfull := z
    rw [ftf, decide_eq_true_eq] at hfull
    have h4 : t.mask = 7 ∧ L.length = 4 := by
      rcases R.tab.mok with e | e | e <;> rw [e] at hfull hroom
      · exact ⟨e, by omega⟩
      · omega
      · omega
    have pl : t1.place.size = es1.size := by
      have := g3.sz
      rw [List.length_map, l1] at this
      rw [this, hs1]
    have fit1 : t1.fits es1.size = true := by
      unfold SetTable.fits SetTable.fill
      rw [g3.dm, Bool.and_eq_true, beq_iff_eq, decide_eq_true_eq]
      refine ⟨pl, ?_⟩
      show t1.place.size + 0 ≤ t1.mask
      rw [pl, hs1, g4, h4.1, h4.2]; decide
    first
      | (refine wpAny_bind ?_; refine wp_if_pos (by simp [z]) ?_)
      | (refine wp_if_pos (by simp [z]) ?_; refine wpAny_bind ?_)
    rw [hlen, h4.2]
    refine ns_relay (s := { s with heap := h1 }) ho1 ⟨hex.1, hex.2.1, hex.2.2⟩ rfl hin fit1 diff1 tup1 pl1 ld1 (by rw [l1, h4.2]) fun h2 L2 es2 ep2 t2 sb2 R2 pm2 => ?_
    exact wpAny_pure (q true h2 L2 es2 ep2 t2 (sb.trans sb2) R2 ⟨fun y => absurd y hm, fun _ => pm2.trans pm⟩)
  · have hfull := z
    rw [ftf, decide_eq_true_eq] at hfull
    first
      | refine wp_if_neg (by simp [z]) ?_
      | (refine wpAny_bind ?_; refine wp_if_neg (by simp [z]) ?_; refine wpAny_pure ?_)
    exact wpAny_pure (q true h1 L1 es1 (ep + 1) t1 sb ⟨⟨_, ho1, ⟨hex.1, hex.2.1, hex.2.2⟩, rfl⟩, hin, g3, diff1, tup1, pl1, ld1, by rw [l1, g4]; omega⟩ put1)
end
/-- what stands in the set when the rows xs went in -/
structure InN (xs L : List FRow) : Prop where
  sub : ∀ p ∈ L, p ∈ xs
  all : ∀ p ∈ xs, p.1 ∈ L.map (·.1)
theorem InN.next {xs L L' : List FRow} {k : NestedKey} {b : Addr} (g : InN xs L) (h : Put L k b L') : InN (xs ++ [(k, b)]) L' := by
  by_cases z : k ∈ L.map (·.1)
  · rw [h.1 z]
    refine ⟨fun p hp => List.mem_append_left _ (g.sub p hp), fun p hp => ?_⟩
    rcases List.mem_append.mp hp with y | y
    · exact g.all p y
    · rw [List.mem_singleton.mp y]; exact z
  · have pm := h.2 z
    refine ⟨fun p hp => ?_, fun p hp => ?_⟩
    · rcases List.mem_cons.mp (pm.mem_iff.mp hp) with y | y
      · rw [y]; exact List.mem_append_right _ List.mem_cons_self
      · exact List.mem_append_left _ (g.sub p y)
    · rw [(pm.map (·.1)).mem_iff, List.map_cons]
      rcases List.mem_append.mp hp with y | y
      · exact List.mem_cons_of_mem _ (g.all p y)
      · rw [List.mem_singleton.mp y]; exact List.mem_cons_self
section
variable {P : Program} {w : World} {A : Around} {E : Value → Shared → Prop} {s : Shared}
theorem NS.onto {h h' : Heap} {a : Addr} {L : List FRow} {es : Array (Int × Value)} {ep : Nat} {t : SetTable} (R : NS P w h a L es ep t) (ha : ∀ o, h.get? a = some o → h'.get? a = some o) (ht : ∀ p ∈ L, FK P w h' p.1 p.2) : NS P w h' a L es ep t := by
  obtain ⟨o, ho, r⟩ := R.obj
  exact ⟨⟨o, ha o ho, r⟩, R.rows, R.tab, R.diff, ht, R.plain, R.led, R.room⟩
theorem ns_new {h : Heap} {a : Addr} (ho : h.get? a = some (newS w)) : NS P w h a [] #[] 0 (.fresh 0 0 (!w.params.followText "set-order")) where
  obj := ⟨_, ho, ⟨rfl, rfl, rfl⟩, rfl⟩
  rows := rfl
  tab := ⟨List.Pairwise.nil, rfl, rfl, .inl rfl, (fun _ z => nomatch z), fun i h j z => by simp at z⟩
  diff := List.nodup_nil
  tup := fun _ z => nomatch z
  plain := rfl
  led := by
    show _ ∨ (!w.params.followText "set-order") = true
    cases w.params.followText "set-order"
    · exact .inr rfl
    · exact .inl rfl
  room := by show 0 * 5 < 7 * 3; decide
/-- the loop of set.update -/
theorem ns_loop {I : Addr} {fp wr : List Addr} {G : Array GenState → Array GenState → Prop} {n : Nat} {Pv : Nat → Value → Prop} {St : Nat → Shared → Prop} {R : Result → Shared → Prop} (W : WalksS P w A.in1 I fp wr G n Pv St) (S : Addr) (hS : S ∉ fp)
    (xs : List FRow) (hn : n = xs.length) (few : ∀ ks : List NestedKey, ks.Nodup → (∀ k ∈ ks, k ∈ xs.map (·.1)) → ks.length ≤ 18) (hv : ∀ i v, Pv i v → ∃ p, xs[i]? = some p ∧ v = .ref p.2) (h0 : Heap) (hk : ∀ p ∈ xs, FK P w h0 p.1 p.2) (z0 : h0.get? S = none) (zw : ∀ b ∈ wr, h0.get? b = none) (hu : A.in1.units + 8 < cLine) :
    ∀ (m i : Nat) (s : Shared) (L : List FRow) (es : Array (Int × Value)) (ep : Nat) (t : SetTable), i + m = n → St i s → (∀ b o, h0.get? b = some o → s.heap.get? b = some o) → NS P w s.heap S L es ep t → InN (xs.take i) L →
      (∀ s' L' es' ep' t', Moved (S :: wr) G s s' → (∀ b o, h0.get? b = some o → s'.heap.get? b = some o) → NS P w s'.heap S L' es' ep' t' → InN xs L' → R (.ok (.ret .none)) s') →
      codeAny (model P w) A (.builtin "set.update.loop" ⟨[.ref S, .ref I], []⟩) R s := by
  have hSw : S ∉ wr := fun h => hS (W.sub _ h)
  have still : ∀ {s s' : Shared}, Moved wr G s s' → (∀ b o, h0.get? b = some o → s.heap.get? b = some o) → ∀ b o, h0.get? b = some o → s'.heap.get? b = some o := fun hm h b o e => hm.heap b o (fun hb => by rw [zw b hb] at e; cases e) (h b o e)
  have tups : ∀ {s : Shared} {i : Nat} {L : List FRow}, InN (xs.take i) L → (∀ b o, h0.get? b = some o → s.heap.get? b = some o) → ∀ p ∈ L, FK P w s.heap p.1 p.2 := fun g h p hp => (hk p (List.mem_of_mem_take (g.sub p hp))).more h
  intro m
  induction m with
  | zero =>
    intro i s L es ep t hi hst h1 hN g hR
    obtain rfl : i = n := hi
    refine codeAny_builtin F.entry_set_update_loop ?_
    rw [Around.under_plainId F.plain_set_update_loop _]
    show wpAny _ A.in1 (pyNext (.ref I) >>= _) _ _ s
    refine wpAny_bind (W.done s _ _ hst fun s' hm => ?_)
    have h2 := still hm h1
    refine wpAny_pure (hR s' L es ep t ⟨fun b o hb e => hm.heap b o (fun z => hb (List.mem_cons_of_mem _ z)) e, hm.gens, hm.drawn, hm.os, hm.toks⟩ h2 (hN.onto (fun o e => hm.heap S o hSw e) (tups g h2)) ?_)
    rw [hn, List.take_length] at g
    exact g
  | succ m ih =>
    intro i s L es ep t hi hst h1 hN g hR
    refine codeAny_builtin F.entry_set_update_loop ?_
    rw [Around.under_plainId F.plain_set_update_loop _]
    show wpAny _ A.in1 (pyNext (.ref I) >>= _) _ _ s
    refine wpAny_bind (W.item i s _ _ (by omega) hst fun v s' hP hst' hm => ?_)
    obtain ⟨p, hp, rfl⟩ := hv i v hP
    have h2 := still hm h1
    have hN' : NS P w s'.heap S L es ep t := hN.onto (fun o e => hm.heap S o hSw e) (tups g h2)
    have hx : FK P w s'.heap p.1 p.2 := (hk p (List.mem_of_getElem? hp)).more h2
    show wpAny _ A.in1 (holding [Value.ref p.2] (setAdd S (.ref p.2)) >>= _) _ _ s'
    refine wpAny_bind (wpAny_holding ?_)
    unfold setAdd
    refine wpAny_holding (wpAny_bind ((nestedKind P w).pyHash hu hx.is ?_))
    have hl : p.1 ∉ L.map (·.1) → L.length < 18 := fun z => by
      have h3 := few (p.1 :: L.map (·.1)) (List.nodup_cons.mpr ⟨z, hN.diff⟩) fun k hk => by
        rcases List.mem_cons.mp hk with y | y
        · rw [y]; exact List.mem_map.mpr ⟨p, List.mem_of_getElem? hp, rfl⟩
        · obtain ⟨q, hq, rfl⟩ := List.mem_map.mp y
          exact List.mem_map.mpr ⟨q, List.mem_of_mem_take (g.sub q hq), rfl⟩
      rw [List.length_cons, List.length_map] at h3
      exact h3
    refine NS.put (s := { s' with toks := s'.toks + p.1.draws }) hN' hx hu hl fun z h' L' es' ep' t' sb hN2 hput => ?_
    have h3 : ∀ b o, h0.get? b = some o → h'.get? b = some o := fun b o e => (sb.2 b fun z => by rw [z, z0] at e; cases e).trans (h2 b o e)
    refine wpAny_pure ⟨plainId_quiet F.plain_set_update_loop _, ih (i + 1) _ L' es' ep' t' (by omega) (W.frame _ s' _ _ hst' (Nat.le_add_right _ _) fun b hb o e => (sb.2 b fun z => hS (z ▸ hb)).trans e) h3 hN2 ?_ fun s'' L2 es2 ep2 t2 hm2 h4 hN3 g2 => ?_⟩
    · rw [List.take_add_one, hp]; exact g.next hput
    · have hm1 : Moved (S :: wr) G s { s' with heap := h', toks := s'.toks + p.1.draws } := ⟨fun b o hb e => (sb.2 b fun z => hb (z ▸ List.mem_cons_self)).trans (hm.heap b o (fun z => hb (List.mem_cons_of_mem _ z)) e), hm.gens, hm.drawn, hm.os, Nat.le_trans hm.toks (Nat.le_add_right _ _)⟩
      exact hR s'' L2 es2 ep2 t2 (Moved.trans W.gtrans hm1 hm2) h4 hN3 g2
/-- what set(xs) leaves -/
def TupSetMade (P : Program) (w : World) (s : Shared) (xs : List FRow) (s2 : Shared) : Prop := ∃ (h' : Heap) (tk : Nat) (L : List FRow) (es : Array (Int × Value)) (ep : Nat) (t : SetTable), s2 = { s with heap := h', toks := tk } ∧ NS P w h' s.heap.objs.size L es ep t ∧ InN xs L ∧ ∀ b o, s.heap.get? b = some o → h'.get? b = some o
theorem tupset_of_list {l : Addr} {items : Array Value} (xs : List FRow) {Q : Value → Shared → Prop} (hh : A.handled = none) (hu : A.units + 64 < cLine) (hl : s.heap.IsList l items) (hit : items.toList = xs.map fun p => Value.ref p.2) (hk : ∀ p ∈ xs, FK P w s.heap p.1 p.2) (few : ∀ ks : List NestedKey, ks.Nodup → (∀ k ∈ ks, k ∈ xs.map (·.1)) → ks.length ≤ 18)
    (h : ∀ s2, TupSetMade P w s xs s2 → Q (.ref s.heap.objs.size) s2) : wpAny (model P w) A (call (.type "set") [.ref l]) Q E s := by
  have hisz : items.size = xs.length := by rw [← Array.length_toList, hit, List.length_map]
  have hval : ∀ (i : Nat) (v : Value), items[i]? = some v → ∃ p, xs[i]? = some p ∧ v = .ref p.2 := fun i v hv => by
    rw [← Array.getElem?_toList, hit, List.getElem?_map] at hv
    cases e : xs[i]? with
    | none => rw [e] at hv; cases hv
    | some p => rw [e] at hv; cases hv; exact ⟨p, rfl, rfl⟩
  have nothing : ∀ b, s.heap.objs.size ≤ b → s.heap.get? b = none := fun b hb => by
    cases q : s.heap.get? b with
    | none => rfl
    | some o => exact absurd (Heap.lt_size q) (Nat.not_lt.mpr hb)
  obtain ⟨_, _, hmro⟩ := F.called_set.mro
  have hmade := F.called_set.made
  have hsub := F.called_set.sub
  have hno := F.called_set.notType
  have hcan := F.called_set.canCreate
  have hct := F.typeCall_set_1 (.ref l)
  refine wpAny_call (codeAny_of_tree ?_)
  show wpAny _ _ (callAny (.type "set") _) _ _ _
  refine wpAny_pure ⟨Code.quiet_builtin _ (by decide +kernel), codeAny_builtin F.entry_type_call ?_⟩
  rw [Around.under_plain (weight_type_call_type "set" [.ref l] []) rfl]
  repeat (any_goals (first | assumption | wp_step))
  refine codeAny_mono (code_set_led1 (.ref l) (E := E) (Q₁ := fun x s1 => x = .ref s.heap.objs.size ∧ s1 = { s with heap := s.heap.push (newS w) }) ⟨rfl, rfl⟩) fun r s1 hr => ?_
  match r, hr with
  | .error e, hr => exact hr
  | .ok (.ret x), ⟨hx, hs1⟩ =>
    subst hx hs1
    have hS : (s.heap.push (newS w)).get? s.heap.objs.size = some (newS w) := Heap.get?_push_size _ rfl
    have hT : Shared.TypeIs { s with heap := s.heap.push (newS w) } (.ref s.heap.objs.size) "set" := ⟨_, hS, rfl⟩
    have hli := F.called_set.init.lookup
    have hbi := F.called_set.init.bind (.ref s.heap.objs.size)
    repeat (any_goals (first | assumption | wp_step))
    refine codeAny_mono (codeAny_call_builtin (R := wants (fun x s2 => x = .none ∧ TupSetMade P w s xs s2) E) F.called_set.init.plain F.entry_set_init (check_set_init_1 hT ?_)) fun r2 s2 hr2 => ?_
    · obtain ⟨⟨oc, od, odt, osl⟩, hol, hcl, nl, hdl⟩ := hl
      dsimp only at hcl hdl
      subst hcl hdl
      have hol' : (s.heap.push (newS w)).get? l = some { cls := .type "list", dict := od, data := .seq items nl, slots := osl } := Heap.get?_push_of_some _ hol
      have hl1 : (s.heap.push (newS w)).IsList l items := ⟨_, hol', rfl, nl, rfl⟩
      have hlS : l < s.heap.objs.size := Heap.lt_size hol
      have hz : (s.heap.push (newS w)).objs.size = s.heap.objs.size + 1 := Heap.size_push ..
      have hsls := F.sub_list_set
      have hslf := F.sub_list_frozenset
      have hne : (Value.type "list" == Value.type "dict") = false := by decide
      unfold Builtin.«set.__init__» noKeywords Builtin.Frozenset.updateFrom
      generalize hPI : pyIter = PI
      wp_walk
      subst hPI
      refine wpAny_pyIter_list hl1 (wpAny_bind (wpAny_runValue ?_))
      have hA : A.in1.in1.in1.units = A.units + 3 := rfl
      refine ns_loop ((Walks.list (show A.in1.in1.in1.handled = none by simp [hh]) _ l (by rw [hz]; exact Nat.ne_of_lt (Nat.lt_succ_of_lt hlS)) items).toS) s.heap.objs.size (by rw [hz]; simp only [List.mem_cons, List.not_mem_nil, or_false, not_or]; exact ⟨Nat.ne_of_lt (Nat.lt_succ_self _), Nat.ne_of_gt hlS⟩) xs hisz few hval s.heap hk (nothing _ (Nat.le_refl _))
        (fun b hb => nothing b (by rw [List.mem_singleton.mp hb, hz]; exact Nat.le_succ _)) (by first | omega | (rw [hA]; omega) | (show A.units + _ + 8 < _; omega)) items.size 0 _ [] #[] 0 _ (Nat.zero_add _)
        ⟨⟨_, Heap.get?_push_size _ rfl, rfl, rfl⟩, (hl1.push _)⟩ (fun b o e => Heap.get?_push_of_some _ (Heap.get?_push_of_some _ e)) (ns_new (Heap.get?_push_of_some _ hS)) ⟨(fun _ z => nomatch z), (fun p hp => by simp at hp)⟩ fun s' L es ep t hm h4 hN g => ?_
      obtain ⟨h', g', d', tk', os'⟩ := s'
      cases (show g' = s.gens from hm.gens)
      cases (show d' = s.drawn from hm.drawn)
      cases (show os' = s.os from hm.os)
      show wpAny _ _ _ _ _ _
      refine wpAny_pure ?_
      show wpAny _ _ (ret Value.none) _ _ _
      exact wpAny_pure ⟨rfl, h', tk', L, es, ep, t, rfl, hN, g, h4⟩
    · match r2, hr2 with
      | .error e, hr2 => exact hr2
      | .ok (.ret _), ⟨hx, hm⟩ =>
        subst hx
        repeat (any_goals (first | assumption | wp_step))
        exact h _ hm
end
def leafP : PyData → Bool
  | .int _ => true
  | .bool _ => true
  | _ => false
def flatP : PyData → Bool
  | .tuple ds => ds.all leafP
  | _ => false
theorem leaf_nk : ∀ {d : PyData}, leafP d = true → nkB d = true ∧ (nkP d).depth = 0
  | .int _, _ => ⟨rfl, rfl⟩
  | .bool _, _ => ⟨rfl, rfl⟩
theorem leaf_nks : ∀ {ds : List PyData}, ds.all leafP = true → nkBs ds = true ∧ NestedKey.depthAll (nkPs ds) = 0
  | [], _ => ⟨rfl, rfl⟩
  | d :: ds, h => by
    rw [List.all_cons, Bool.and_eq_true] at h
    have h1 := leaf_nk h.1
    have h2 := leaf_nks h.2
    refine ⟨by show (nkB d && nkBs ds) = true; rw [h1.1, h2.1]; rfl, ?_⟩
    show max (nkP d).depth (NestedKey.depthAll (nkPs ds)) = 0
    rw [h1.2, h2.2]; rfl
theorem leaf_vals {h : Heap} : ∀ {ds : List PyData} {vs : List Value} {as : List Addr}, ds.all leafP = true → ReadsAll h vs ds as → ∀ v ∈ vs, LeafV v
  | [], _, _, _, .nil, _, z => nomatch z
  | d :: ds, _, _, hl, .cons h1 h2, v, hv => by
    rw [List.all_cons, Bool.and_eq_true] at hl
    rcases List.mem_cons.mp hv with e | e
    · subst e
      cases d with
      | int i => cases h1 with | int _ t => exact .inl ⟨_, _, rfl⟩
      | bool b => cases h1 with | bool _ => exact .inr ⟨_, rfl⟩
      | _ => exact absurd hl.1 Bool.false_ne_true
    · exact leaf_vals hl.2 h2 v e
theorem fk_of {P : Program} {w : World} {h : Heap} : ∀ {d : PyData} {u : Value} {as : List Addr}, flatP d = true → Reads h u d as → ∃ b, u = .ref b ∧ FK P w h (nkP d) b
  | .tuple ds, _, _, hf, .tuple h1 h2 h3 h4 => by
    have hf : ds.all leafP = true := hf
    have hl := leaf_nks hf
    refine ⟨_, rfl, ⟨nested_of (.tuple ds) hl.1 (.tuple h1 h2 h3 h4), ?_⟩, ⟨_, _, _, h1, h2, h3, leaf_vals hf h4⟩⟩
    show NestedKey.depthAll (nkPs ds) + 1 ≤ 8
    rw [hl.2]; decide
/-- the set's own object -/
structure NS0 (w : World) (h : Heap) (a : Addr) (L : List FRow) : Prop where
  ex : ∃ es ep t, (∃ o, h.get? a = some o ∧ o.ExactSet ∧ o.data = .set es ep t) ∧ es.toList = L.map (rowN w) ∧ TabOk t (L.map fun p => p.1.hash w) ∧ t.plain = true ∧ (w.params.followText "set-order" = true ∨ t.led = true) ∧ L.length * 5 < t.mask * 3
  diff : (L.map (·.1)).Nodup
def NSO (w : World) (a : Addr) (L : List FRow) : HO := .ext fun h => NS0 w h a L
theorem nso_new {P : Program} {w : World} {H : Hp} {h : Heap} {a : Addr} {L : List FRow} {es : Array (Int × Value)} {ep : Nat} {t : SetTable} (R : NS P w h a L es ep t) : ObjOk P w H h a (NSO w a L) := by
  obtain ⟨o, ho, r⟩ := R.obj
  refine ⟨⟨⟨es, ep, t, ⟨o, ho, r⟩, R.rows, R.tab, R.plain, R.led, R.room⟩, R.diff⟩, ⟨o, ho⟩, fun h1 h2 ⟨⟨es', ep', t', ⟨o', ho', r'⟩, q'⟩, d'⟩ k => ⟨⟨es', ep', t', ⟨o', k o' ho', r'⟩, q'⟩, d'⟩⟩
theorem perm_map_out {α β : Type} (f : α → β) : ∀ (L : List α) (vs : List β), vs.Perm (L.map f) → ∃ L' : List α, L'.Perm L ∧ vs = L'.map f
  | [], vs, h => ⟨[], .nil, List.Perm.eq_nil h⟩
  | x :: L, vs, h => by
    obtain ⟨s, t, rfl⟩ := List.append_of_mem (h.mem_iff.mpr (List.mem_cons_self : f x ∈ f x :: L.map f))
    obtain ⟨L', h1, h2⟩ := perm_map_out f L (s ++ t) (List.Perm.cons_inv (List.perm_middle.symm.trans h))
    obtain ⟨u, v, rfl, h3, h4⟩ := List.append_eq_map_iff.mp h2
    exact ⟨u ++ x :: v, List.perm_middle.trans (h1.cons x), by rw [List.map_append, List.map_cons, h3, h4]⟩
theorem nodup_lenD {α : Type} [DecidableEq α] : ∀ l D : List α, l.Nodup → (∀ x ∈ l, x ∈ D) → l.length ≤ D.length
  | [], _, _, _ => Nat.zero_le _
  | x :: l, D, hn, h => by
    have hx := h x List.mem_cons_self
    have hn' := List.nodup_cons.mp hn
    have ih := nodup_lenD l (D.erase x) hn'.2 fun y hy => (List.mem_erase_of_ne (fun z : y = x => hn'.1 (by rw [← z]; exact hy))).mpr (h y (List.mem_cons_of_mem _ hy))
    rw [List.length_erase_of_mem hx] at ih
    have := List.length_pos_of_mem hx
    rw [List.length_cons]; omega
section
variable {X : Cx} {β : Type} {enc : β → PyData}
abbrev rowB (enc : β → PyData) (p : β × Addr) : FRow := (nkP (enc p.1), p.2)
theorem rows_of {h : Heap} {P : Program} {w : World} {R : Value → β → Prop} (hf : ∀ b, flatP (enc b) = true) : ∀ {us : List Value} {bs : List β}, PySem.W.EachIs R us bs → (∀ u b, R u b → ∃ as, Reads h u (enc b) as) →
    ∃ xs : List (β × Addr), xs.map (·.1) = bs ∧ us = xs.map (fun p => Value.ref p.2) ∧ ∀ p ∈ xs, R (.ref p.2) p.1 ∧ FK P w h (nkP (enc p.1)) p.2
  | _, _, .nil, _ => ⟨[], rfl, rfl, fun _ z => nomatch z⟩
  | _, _, .cons (b := b) r t, hr => by
    obtain ⟨xs, h1, h2, h3⟩ := rows_of hf t hr
    obtain ⟨as, q⟩ := hr _ _ r
    obtain ⟨c, rfl, k⟩ := fk_of (P := P) (w := w) (hf b) q
    refine ⟨(b, c) :: xs, by rw [List.map_cons, h1], by rw [List.map_cons, h2], fun p hp => ?_⟩
    rcases List.mem_cons.mp hp with e | e
    · subst e; exact ⟨r, k⟩
    · exact h3 p e
theorem pick_rows (g : β × Addr → FRow) (xs : List (β × Addr)) : ∀ L : List FRow, (∀ p ∈ L, p ∈ xs.map g) → ∃ M : List (β × Addr), L = M.map g ∧ ∀ p ∈ M, p ∈ xs
  | [], _ => ⟨[], rfl, fun _ z => nomatch z⟩
  | p :: L, h => by
    obtain ⟨M, e, hs⟩ := pick_rows g xs L fun q hq => h q (List.mem_cons_of_mem _ hq)
    obtain ⟨x, hx, rfl⟩ := List.mem_map.mp (h p List.mem_cons_self)
    exact ⟨x :: M, by rw [List.map_cons, e], fun q hq => (List.mem_cons.mp hq).elim (fun z => z ▸ hx) (hs q)⟩
/-- set(xs) -/
def rSetN (w : World) (K : PySem.W.Frag) (enc : β → PyData) : List V → Hp → VK → Prop := fun vs H Q => ∃ (l : Addr) (xs : List V) (bs : List β) (P : V → β → Prop), vs = [V.ref l] ∧ SqL K H l xs ∧ Paired P xs bs ∧ (∀ x b, P x b → Dp K H x (enc b)) ∧ (∀ ks : List NestedKey, ks.Nodup → (∀ k ∈ ks, ∃ b ∈ bs, k = nkP (enc b)) → ks.length ≤ 18) ∧
  ∀ (a : Addr) (M : List (β × Addr)), H a = none → (∀ p ∈ M, p.1 ∈ bs ∧ ∃ x, RelV x (.ref p.2) ∧ P x p.1) → (∀ b ∈ bs, ∃ p ∈ M, nkP (enc p.1) = nkP (enc b)) → (M.map fun p => nkP (enc p.1)).Nodup → Q (.ref a) (upd H a (NSO w a (M.map (rowB enc))))
theorem cr_setN (hc : X.calm = true) (hu : X.A.units + 64 < cLine) (hf : ∀ b, flatP (enc b) = true) : CallR X (.type "set") (rSetN X.w X.K enc) := by
  intro pins s σ H vs us Q I r h
  obtain ⟨l, xs, bs, Pv, rfl, hl, hp, hd, few, q⟩ := h
  rw [Vals.ref1 r]
  obtain ⟨its, rv, pl, hz⟩ := I.list hl
  obtain ⟨ys, e1, e2, e3⟩ := rows_of (P := X.prog) (w := X.w) (h := s.heap) hf (each_of rv hp) fun u b ⟨x, rx, hx⟩ => Dp.reads I _ x u (hd x b hx) rx
  have hn : H s.heap.objs.size = none := I.hok.fresh (Nat.le_refl _)
  refine tupset_of_list (P := X.prog) (w := X.w) (ys.map (rowB enc)) (I.ok.hd hc) hu pl.isList (by rw [List.map_map]; simpa [Function.comp_def] using e2) (fun p hp' => ?_) (fun ks h1 h2 => few ks h1 fun k hk => by
      obtain ⟨p, hp1, hp2⟩ := List.mem_map.mp (h2 k hk)
      obtain ⟨y, hy, rfl⟩ := List.mem_map.mp hp1
      exact ⟨y.1, by rw [← e1]; exact List.mem_map.mpr ⟨y, hy, rfl⟩, hp2.symm⟩) fun s2 ⟨h', tk, L, es, ep, t, e, R, g, k⟩ => ?_
  · obtain ⟨y, hy, rfl⟩ := List.mem_map.mp hp'
    exact (e3 y hy).2
  · subst e
    obtain ⟨M, rfl, hM⟩ := pick_rows (rowB enc) ys L g.sub
    refine ⟨.ref s.heap.objs.size, _, I.laid (t' := tk) k (Nat.le_refl _) (nso_new R), rfl, q _ M hn (fun p hp' => ⟨?_, (e3 p (hM p hp')).1⟩) (fun b hb => ?_) ?_⟩
    · rw [← e1]; exact List.mem_map.mpr ⟨p, hM p hp', rfl⟩
    · rw [← e1] at hb
      obtain ⟨y, hy, rfl⟩ := List.mem_map.mp hb
      have := g.all (rowB enc y) (List.mem_map.mpr ⟨y, hy, rfl⟩)
      rw [List.map_map] at this
      obtain ⟨p, hp', e⟩ := List.mem_map.mp this
      exact ⟨p, hp', e⟩
    · have := R.diff
      rwa [List.map_map] at this
/-- sorted(found) -/
def rSortN (w : World) (K : PySem.W.Frag) (enc : β → PyData) : List V → Hp → VK → Prop := fun vs H Q => ∃ (a : Addr) (M : List (β × Addr)) (P : V → β → Prop), vs = [V.ref a] ∧ H a = some (NSO w a (M.map (rowB enc))) ∧ M.length ≤ 18 ∧ (∀ p ∈ M, ∃ x, RelV x (.ref p.2) ∧ P x p.1) ∧ (∀ x b, P x b → Dp K H x (enc b)) ∧
  ∀ (bs : List β) ys p, bs.Perm (M.map (·.1)) → Paired P ys (bs.mergeSort (PySem.W.dataLe false enc)) → H p = none → Q (.ref p) (upd H p (.lst ys))
theorem cr_sortN (hc : X.calm = true) (hu : X.A.units + 64 < cLine) (hf : ∀ b, flatP (enc b) = true) (hal : ∀ bs : List β, PySem.W.AllAlike (bs.map enc)) (hso : ∀ bs : List β, PySem.W.Sortable (bs.map enc)) (hdp : ∀ b, (enc b).depth ≤ 60) : CallR X (.builtin "sorted") (rSortN X.w X.K enc) := by
  intro pins s σ H vs us Q I r h
  obtain ⟨a, M, Pv, rfl, ha, few, hM, hd, q⟩ := h
  rw [Vals.ref1 r]
  have R0 : NS0 X.w s.heap a (M.map (rowB enc)) := (I.hok a _ ha).1
  obtain ⟨es, ep, t, ⟨o, ho, hex, hdt⟩, h2, h3, h4, h5, h6⟩ := R0.ex
  have R : NS X.prog X.w s.heap a (M.map (rowB enc)) es ep t := ⟨⟨o, ho, hex, hdt⟩, h2, h3, R0.diff, (fun p hp => by
    obtain ⟨m, hm, rfl⟩ := List.mem_map.mp hp
    obtain ⟨x, rx, hx⟩ := hM m hm
    obtain ⟨as, hr⟩ := Dp.reads I _ x _ (hd x m.1 hx) rx
    obtain ⟨b, e, k⟩ := fk_of (P := X.prog) (w := X.w) (hf m.1) hr
    cases e
    exact k), h4, h5, h6⟩
  have hlen := R.len
  rw [List.length_map] at hlen
  refine Calls.call_function_entry PyProof.Rows.kind_sorted PyProof.Rows.plain_sorted PyProof.Rows.entry_sorted (PyProof.Rows.args_sorted1 _) ?_
  unfold Builtin.«sorted»
  refine wpAny_bind (m := checkCount "sorted" 1 1 _) (wpAny_pure (wpAny_bind (collect_set (A := X.A.in1) (I.ok.hd hc) ⟨o, ho, hex.1, hdt⟩ R.fits (by unfold scanBound; omega) h3.ris h5 fun s1 vs k1 hz g1 o1 pm => ?_)))
  have hes : es.toList.map (·.2) = M.map fun p => Value.ref p.2 := by rw [h2, List.map_map, List.map_map]; rfl
  rw [hes] at pm
  obtain ⟨M', pM, rfl⟩ := perm_map_out _ M vs pm
  have hM' : ∀ p ∈ M', ∃ x, RelV x (.ref p.2) ∧ Pv x p.1 := fun p hp => hM p (pM.mem_iff.mp hp)
  have l' : M'.length ≤ 18 := by rw [pM.length_eq]; exact few
  have eR : ∀ L : List (β × Addr), (∀ p ∈ L, ∃ x, RelV x (.ref p.2) ∧ Pv x p.1) → PySem.W.EachIs (fun u b => ∃ x, RelV x u ∧ Pv x b) (L.map fun p => Value.ref p.2) (L.map (·.1)) := fun L => by
    induction L with
    | nil => exact fun _ => .nil
    | cons p L ih => exact fun z => .cons (z p List.mem_cons_self) (ih fun q hq => z q (List.mem_cons_of_mem _ hq))
  have eR := eR M' hM'
  refine wpAny_bind (wpAny_newList ?_ (by rw [List.length_map, sizeLine_eq]; omega))
  have hoL : (s1.heap.push (seqObj "list" (M'.map fun p => Value.ref p.2).toArray 0)).get? s1.heap.objs.size = some (seqObj "list" (M'.map fun p => Value.ref p.2).toArray 0) := Heap.get?_push_size _ rfl
  have er : PySem.W.EachIs (fun v b => ∃ as, Reads (s1.heap.push (seqObj "list" (M'.map fun p => Value.ref p.2).toArray 0)) v (enc b) as ∧ s1.heap.objs.size ∉ as) (M'.map fun p => Value.ref p.2) (M'.map (·.1)) := eR.mono fun v b ⟨x, rx, hp⟩ => by
    obtain ⟨as, hr⟩ := Dp.reads I _ x v (hd x b hp) rx
    refine ⟨as, PyProof.Rows.Reads.keeps (fun _ _ e => Heap.get?_push_of_some _ (k1 _ _ e)) hr, ?_⟩
    have hnk : nkB (enc b) = true := by
      have := hf b
      cases hb : enc b with
      | tuple ds => rw [hb] at this; exact (leaf_nks this).1
      | _ => rw [hb] at this; cases this
    rw [nk_as _ hnk hr]; exact fun z => nomatch z
  refine wpAny_bind (wpAny_holding (PySem.W.list_sort_data (s := { s1 with heap := s1.heap.push (seqObj "list" (M'.map fun p => Value.ref p.2).toArray 0) }) hoL eR er (hal _) (hso _) (by rw [List.length_map, sizeLine_eq]; omega) (fun b hb => by have := hdp b; have : X.A.in1.units = X.A.units + 1 := rfl; omega) fun out g5 g6 => ?_))
  obtain ⟨zs, v1, v2⟩ := of_each g6
  obtain ⟨e', he'⟩ := PyProof.Rows.sortedHeap_at (vs := M'.map fun p => Value.ref p.2) (out := out.toArray) hoL
  have hzl : zs.length ≤ sizeLine := by rw [v1.length, g5, List.length_map, sizeLine_eq]; omega
  have hf' : H s1.heap.objs.size = none := I.hok.fresh hz
  refine wpAny_pure ⟨_, rfl, .ref s1.heap.objs.size, upd H s1.heap.objs.size (.lst zs), ?_, rfl, q _ _ _ (pM.map (·.1)) v2 hf'⟩
  have k2 : ∀ b u, s.heap.get? b = some u → (PyProof.Rows.sortedHeap (s1.heap.push (seqObj "list" (M'.map fun p => Value.ref p.2).toArray 0)) s1.heap.objs.size (M'.map fun p => Value.ref p.2) out.toArray).get? b = some u := fun b u e => by
    have hb := Heap.lt_size (k1 b u e)
    rw [PyProof.Rows.sortedHeap_old (Nat.ne_of_lt hb) (by rw [size_push']; exact Nat.lt_succ_of_lt hb)]
    exact Heap.get?_push_of_some _ (k1 b u e)
  have hv : ObjOk X.prog X.w (upd H s1.heap.objs.size (.lst zs)) (PyProof.Rows.sortedHeap (s1.heap.push (seqObj "list" (M'.map fun p => Value.ref p.2).toArray 0)) s1.heap.objs.size (M'.map fun p => Value.ref p.2) out.toArray) s1.heap.objs.size (.lst zs) := ⟨hzl, out, e', v1, he'⟩
  have J : Inv X pins σ (upd H s1.heap.objs.size (.lst zs)) { s with heap := PyProof.Rows.sortedHeap (s1.heap.push (seqObj "list" (M'.map fun p => Value.ref p.2).toArray 0)) s1.heap.objs.size (M'.map fun p => Value.ref p.2) out.toArray, gens := s1.gens, drawn := s1.drawn, toks := s1.toks } :=
    I.call (ch := []) (Un.laid k2 hz hf') (I.hok.laid k2 hz hv) (by rw [g1]; exact I.bare) (fun _ z => nomatch z)
  rw [← o1] at J
  exact J
end
section
variable {X : Cy} {a : Expr} {r : Env2} {G : GD} {pos p0 p1 p2 : Pos} {β : Type} {en : β → D} {n : Nat}
theorem we_sortSetN {Q : Res → Env2 → GD → Prop} (h0 : OrC en n) (hf : ∀ b, flatP (toP (en b)) = true) (hso : ∀ bs : List β, PySem.W.Sortable (bs.map fun a => toP (en a))) (hcalm : X.calm = true) (hu : X.A.units + 64 < cLine) (hg : Gl X "sorted") (hm : X.mg "sorted" = none) (hg2 : Gl X "set") (hm2 : X.mg "set" = none)
    (h : WE X a r G fun x r1 G1 => ∃ bs : List β, VwR r1 G1 x (.lst (bs.map en)) ∧ (∀ ks : List NestedKey, ks.Nodup → (∀ k ∈ ks, ∃ b ∈ bs, k = nkD (en b)) → ks.length ≤ 18) ∧ ∀ out : List β, (∀ b, b ∈ out → b ∈ bs) → (∀ b ∈ bs, ∃ c ∈ out, nkD (en c) = nkD (en b)) → (out.map fun b => nkD (en b)).Nodup → Q (.fr (.lst ((dsort en out).map en))) r1 G1)
    (he : starEach [.Call (.Name "set" p1) [a] [] p2] X.env = (false, eval (.Call (.Name "set" p1) [a] [] p2) X.env) :: starEach [] X.env := by rfl) (hpl : (backTo pos (starEach [] X.env)).any (·.1) = false := by rfl)
    (he2 : starEach [a] X.env = (false, eval a X.env) :: starEach [] X.env := by rfl) (hpl2 : (backTo p2 (starEach [] X.env)).any (·.1) = false := by rfl) (hn : n ≤ 60 := by decide) :
    WE X (.Call (.Name "sorted" p0) [.Call (.Name "set" p1) [a] [] p2] [] pos) r G Q := fun F0 T F H σ lk S =>
  Run.of (pe_callB (cr_sortN (enc := fun b : β => toP (en b)) hcalm hu hf (fun bs => PySem.W.AllAlike.of h0.al) hso fun b => Nat.le_trans (h0.dp b) hn) hg hm (by rfl) (pa_cons (pe_callTy (cr_setN (enc := fun b : β => toP (en b)) hcalm hu hf) hg2 hm2 (by rfl) (pa_cons peR pa_nil he2) (by decide) (by decide) he2 hpl2) pa_nil he) (by decide) (by decide) he hpl) ((h F0 T F H σ lk S).mono fun v H1 ⟨x, r1, G1, F1, e1, S1, k1, bs, q1, q2, q3⟩ => by
    obtain ⟨l, vs, rfl, hl, hvs⟩ := (S1.viewR k1 q1).lst S1.bas.fh
    refine ⟨l, vs, bs, fun v b => Rep _ F1 (en b) v, rfl, .inl hl, repl_paired hvs, fun x b rp => h0.dpv S1.bas.fh (.inl rp), fun ks h1 h2 => q2 ks h1 fun k hk => (h2 k hk).imp fun b ⟨hb, e⟩ => ⟨hb, e.trans (nk_toP _)⟩, fun p M hp hM hA hD => ?_⟩
    have S2 := S1.newH (o := NSO X.w p (M.map (rowB fun b : β => toP (en b)))) hp
    have hl18 : M.length ≤ 18 := by
      have := q2 (M.map fun p => nkP (toP (en p.1))) hD fun k hk => by
        obtain ⟨m, hm, rfl⟩ := List.mem_map.mp hk
        exact ⟨m.1, (hM m hm).1, nk_toP _⟩
      rwa [List.length_map] at this
    refine ⟨p, M, fun v b => Rep _ F1 (en b) v, rfl, upd_same, hl18, fun m hm => (hM m hm).2, fun x b rp => h0.dpv S2.bas.fh (.inl rp), fun out ys p' h1 h2 hp' => ?_⟩
    obtain ⟨f1, f2, f3⟩ := S2.bas.freshF hp'
    rw [leC_data] at h2
    refine ⟨.fr (.lst ((dsort en out).map en)), r1, G1, F1, e1, S2.newH hp', ⟨p', rfl, ⟨ys, upd_same, paired_repl h2⟩, f1, f2, f3, S2.freshR hp'⟩, q3 out (fun b hb => ?_) (fun b hb => ?_) ?_⟩
    · obtain ⟨m, hm, rfl⟩ := List.mem_map.mp (h1.mem_iff.mp hb)
      exact (hM m hm).1
    · obtain ⟨m, hm, e⟩ := hA b hb
      rw [nk_toP, nk_toP] at e
      exact ⟨m.1, h1.mem_iff.mpr (List.mem_map.mpr ⟨m, hm, rfl⟩), e⟩
    · have := (h1.map fun b => nkD (en b)).nodup_iff
      rw [this, List.map_map]
      have e : ((fun b => nkD (en b)) ∘ fun p : β × Addr => p.1) = fun p => nkP (toP (en p.1)) := funext fun p => (nk_toP _).symm
      rw [e]; exact hD)
end
open Out (Rt)
open Out (Rt)
open Out (Rt)
open L2 (ixN)
namespace Out
variable {α β σ ρ : Type}
/-- it ends with a value of which Q holds -/
def yes (m : Out α) (Q : α → Prop) : Prop := ∃ a, m = .ok a ∧ Q a
theorem yes_ok {a : α} {Q : α → Prop} (h : Q a) : (Out.ok a).yes Q := ⟨a, rfl, h⟩
theorem yes.mono {m : Out α} {Q Q' : α → Prop} (h : m.yes Q) (k : ∀ a, Q a → Q' a) : m.yes Q' := by
  obtain ⟨a, h1, h2⟩ := h; exact ⟨a, h1, k a h2⟩
theorem yes_bind {m : Out α} {f : α → Out β} {Q : β → Prop} {R : α → Prop} (h : m.yes R) (k : ∀ a, R a → (f a).yes Q) : (m.bind f).yes Q := by
  obtain ⟨a, rfl, h2⟩ := h; exact k a h2
theorem yes_nox {m : Out α} {Q : α → Prop} (h : m.yes Q) : m.nox.yes Q := by
  obtain ⟨a, rfl, h2⟩ := h; exact ⟨a, rfl, h2⟩
theorem yes.eq {m : Out α} {a : α} (h : m.yes (· = a)) : m = .ok a := by obtain ⟨b, h1, h2⟩ := h; rw [h1, h2]
theorem bind_guard {p : Prop} [Decidable p] (h : p) {f : Unit → Out β} : (guard p).bind f = f () := by rw [guard_pos h]; rfl
theorem bind_get {o : Option α} {a : α} (h : o = some a) {f : α → Out β} : (get o).bind f = f a := by rw [h]; rfl
theorem yes_guard {p : Prop} [Decidable p] (h : p) {f : Unit → Out β} {Q : β → Prop} (k : (f ()).yes Q) : ((guard p).bind f).yes Q := by rw [bind_guard h]; exact k
theorem yes_get {o : Option α} {a : α} (h : o = some a) {f : α → Out β} {Q : β → Prop} (k : (f a).yes Q) : ((get o).bind f).yes Q := by rw [bind_get h]; exact k
theorem yes_let {a : α} {f : α → Out β} {Q : β → Prop} (k : (f a).yes Q) : ((Out.ok a).bind f).yes Q := k
theorem yes_ifF {c : Bool} {a b : Out α} {Q : α → Prop} (h : c = false) (k : b.yes Q) : (if c = true then a else b).yes Q := by rw [if_neg (by rw [h]; exact Bool.false_ne_true)]; exact k
theorem yes_if {c : Bool} {a b : Out α} {Q : α → Prop} (h : c = true → a.yes Q) (k : c = false → b.yes Q) : (if c = true then a else b).yes Q := by
  cases c with
  | true => exact h rfl
  | false => exact k rfl
theorem bind_assoc {γ : Type} {m : Out α} {f : α → Out β} {g : β → Out γ} : (m.bind f).bind g = m.bind fun a => (f a).bind g := by cases m <;> rfl
/-- loops: an invariant over what was done so far -/
theorem fold_yes {f : σ → α → Out σ} (I : List α → σ → Prop) : ∀ (xs : List α) (s0 : σ), I [] s0 → (∀ pre x post s, xs = pre ++ x :: post → I pre s → (f s x).yes (I (pre ++ [x]))) → (fold f xs s0).yes (I xs) := by
  have key : ∀ (xs : List α) (pre : List α) (s : σ), I pre s → (∀ p x post s, pre ++ xs = p ++ x :: post → pre.length ≤ p.length → I p s → (f s x).yes (I (p ++ [x]))) → (fold f xs s).yes (I (pre ++ xs)) := by
    intro xs
    induction xs with
    | nil => intro pre s h0 _; rw [List.append_nil]; exact yes_ok h0
    | cons x xs ih =>
      intro pre s h0 hs
      refine yes_bind (hs pre x xs s rfl (Nat.le_refl _) h0) fun s' h' => ?_
      have := ih (pre ++ [x]) s' h' fun p y post s e hl hI => hs p y post s (by rw [← e, List.append_assoc]; rfl) (by rw [List.length_append] at hl; exact Nat.le_trans (Nat.le_add_right _ _) hl) hI
      rw [List.append_assoc] at this
      exact this
  intro xs s0 h0 hs
  exact key xs [] s0 h0 fun p x post s e _ hI => hs p x post s e hI
/-- loops with a return: an invariant, and what a return says -/
theorem loop_yes {f : σ → α → Out (Rt σ ρ)} (I : List α → σ → Prop) (R : ρ → Prop) : ∀ (xs : List α) (s0 : σ), I [] s0 → (∀ pre x post s, xs = pre ++ x :: post → I pre s → (f s x).yes fun t => match t with | .nx s' => I (pre ++ [x]) s' | .rt v => R v) → (loop f xs s0).yes fun t => match t with | .nx s' => I xs s' | .rt v => R v := by
  have key : ∀ (xs : List α) (pre : List α) (s : σ), I pre s → (∀ p x post s, pre ++ xs = p ++ x :: post → pre.length ≤ p.length → I p s → (f s x).yes fun t => match t with | .nx s' => I (p ++ [x]) s' | .rt v => R v) → (loop f xs s).yes fun t => match t with | .nx s' => I (pre ++ xs) s' | .rt v => R v := by
    intro xs
    induction xs with
    | nil => intro pre s h0 _; rw [List.append_nil]; exact yes_ok h0
    | cons x xs ih =>
      intro pre s h0 hs
      refine yes_bind (hs pre x xs s rfl (Nat.le_refl _) h0) fun t h' => ?_
      cases t with
      | nx s' =>
        have := ih (pre ++ [x]) s' h' fun p y post s e hl hI => hs p y post s (by rw [← e, List.append_assoc]; rfl) (by rw [List.length_append] at hl; exact Nat.le_trans (Nat.le_add_right _ _) hl) hI
        rw [List.append_assoc] at this
        exact this
      | rt v => exact yes_ok h'
  intro xs s0 h0 hs
  exact key xs [] s0 h0 fun p x post s e _ hI => hs p x post s e hI
/-- comprehensions -/
theorem compS_unit {f : Unit → α → Out (Option β × Unit)} {o : α → Option β} : ∀ (xs : List α) (acc : List β), (∀ x, x ∈ xs → f () x = .ok (o x, ())) → compS f xs acc () = .ok (acc ++ xs.filterMap o, ())
  | [], acc, _ => by unfold compS; simp
  | x :: xs, acc, h => by
    unfold compS
    rw [h x List.mem_cons_self, bind_ok]
    rw [compS_unit xs _ fun y hy => h y (List.mem_cons_of_mem _ hy)]
    cases hx : o x with
    | none => simp [hx]
    | some y => simp [hx]
theorem compS_yes {f : σ → α → Out (Option β × σ)} (I : List α → List β → σ → Prop) : ∀ (xs : List α) (s0 : σ), I [] [] s0 → (∀ pre x post acc s, xs = pre ++ x :: post → I pre acc s → (f s x).yes fun p => I (pre ++ [x]) (match p.1 with | some y => acc ++ [y] | none => acc) p.2) → (compS f xs [] s0).yes fun r => I xs r.1 r.2 := by
  have key : ∀ (xs : List α) (pre : List α) (acc : List β) (s : σ), I pre acc s → (∀ p x post acc s, pre ++ xs = p ++ x :: post → I p acc s → (f s x).yes fun q => I (p ++ [x]) (match q.1 with | some y => acc ++ [y] | none => acc) q.2) → (compS f xs acc s).yes fun r => I (pre ++ xs) r.1 r.2 := by
    intro xs
    induction xs with
    | nil => intro pre acc s h0 _; rw [List.append_nil]; exact yes_ok h0
    | cons x xs ih =>
      intro pre acc s h0 hs
      unfold compS
      refine yes_bind (hs pre x xs acc s rfl h0) fun q h' => ?_
      have := ih (pre ++ [x]) _ q.2 h' fun p y post acc s e hI => hs p y post acc s (by rw [← e, List.append_assoc]; rfl) hI
      rw [List.append_assoc] at this
      exact this
  intro xs s0 h0 hs
  exact key xs [] [] s0 h0 hs
end Out
open Out (Rt)
section
variable {α β : Type}
theorem perm_of_mem [DecidableEq α] {xs ys : List α} (hx : xs.Nodup) (hy : ys.Nodup) (h : ∀ a, a ∈ xs ↔ a ∈ ys) : xs.Perm ys := by
  rw [List.perm_iff_count]
  intro a
  by_cases ha : a ∈ xs
  · have h1 := List.nodup_iff_count.mp hx a
    have h2 := List.nodup_iff_count.mp hy a
    have h3 := List.count_pos_iff.mpr ha
    have h4 := List.count_pos_iff.mpr ((h a).mp ha)
    omega
  · rw [List.count_eq_zero_of_not_mem ha, List.count_eq_zero_of_not_mem fun z => ha ((h a).mpr z)]
theorem nodup_of_lt {xs : List Int} (h : xs.Pairwise (· < ·)) : xs.Nodup := h.imp fun h => by omega
theorem le_of_lt {xs : List Int} (h : xs.Pairwise (· < ·)) : xs.Pairwise (· ≤ ·) := h.imp fun h => by omega
/-- sorted, by its members -/
theorem isort_eq {xs ys : List Int} (hx : xs.Nodup) (hy : ys.Pairwise (· < ·)) (h : ∀ a, a ∈ xs ↔ a ∈ ys) : isort xs = ys :=
  (isort_of (perm_of_mem (nodup_of_lt hy) hx fun a => (h a).symm) (le_of_lt hy)).symm
theorem sorted_ext {xs ys : List Int} (hx : xs.Pairwise (· < ·)) (hy : ys.Pairwise (· < ·)) (h : ∀ a, a ∈ xs ↔ a ∈ ys) : xs = ys :=
  sorted_unique (perm_of_mem (nodup_of_lt hx) (nodup_of_lt hy) h) (le_of_lt hx) (le_of_lt hy)
theorem mem_rgI {a b x : Int} : x ∈ rgI a b ↔ a ≤ x ∧ x < b := by
  unfold rgI
  rw [List.mem_map]
  constructor
  · rintro ⟨i, hi, rfl⟩; rw [List.mem_range] at hi; omega
  · rintro ⟨h1, h2⟩; exact ⟨(x - a).toNat, by rw [List.mem_range]; omega, by omega⟩
theorem rgI_lt (a b : Int) : (rgI a b).Pairwise (· < ·) := by
  unfold rgI
  rw [List.pairwise_map]
  exact List.pairwise_lt_range.imp fun h => by omega
theorem rgI_nil {a b : Int} (h : b ≤ a) : rgI a b = [] := by
  unfold rgI; rw [show (b - a).toNat = 0 by omega]; rfl
theorem rgI_snoc {a b : Int} (h : a ≤ b) : rgI a (b + 1) = rgI a b ++ [b] := by
  unfold rgI; rw [show (b + 1 - a).toNat = (b - a).toNat + 1 by omega, List.range_succ, List.map_append]
  congr 1; simp; omega
theorem filter_lt {xs : List Int} {p : Int → Bool} (h : xs.Pairwise (· < ·)) : (xs.filter p).Pairwise (· < ·) := h.filter p
theorem pix_nat {xs : List α} {i : Nat} {x : α} (h : xs[i]? = some x) : pix xs (i : Int) = some x := by
  have hi := (List.getElem?_eq_some_iff.mp h).1
  unfold pix ixN
  rw [if_pos (by omega), if_pos (by omega)]
  simpa using h
theorem pix_pos {xs : List α} {i : Int} (h0 : 0 ≤ i) (h1 : i < xs.length) : pix xs i = xs[i.toNat]? := by
  unfold pix ixN
  rw [if_pos h0, if_pos h1]; rfl
theorem pix_some {xs : List α} {i : Int} (h0 : 0 ≤ i) (h1 : i < xs.length) : ∃ x, pix xs i = some x ∧ x ∈ xs := by
  rw [pix_pos h0 h1]
  have : i.toNat < xs.length := by omega
  exact ⟨xs[i.toNat], List.getElem?_eq_getElem this, List.getElem_mem _⟩
theorem pix_last {xs : List α} {x : α} (h : xs.getLast? = some x) : pix xs (-1) = some x := by
  have hne : xs ≠ [] := by intro e; rw [e] at h; cases h
  have hl : 0 < xs.length := List.length_pos_iff.mpr hne
  unfold pix ixN
  rw [if_neg (by omega), if_pos (by omega)]
  rw [List.getLast?_eq_getElem?] at h
  rw [show ((-1 : Int) + (xs.length : Int)).toNat = xs.length - 1 by omega]
  exact h
theorem penumF_get : ∀ (xs : List α) (k i : Nat), (penumF k xs)[i]? = (xs[i]?).map fun x => (((k + i : Nat) : Int), x)
  | [], k, i => by unfold penumF; simp
  | x :: xs, k, 0 => by unfold penumF; simp
  | x :: xs, k, i + 1 => by
    unfold penumF
    rw [List.getElem?_cons_succ, penumF_get xs (k + 1) i, List.getElem?_cons_succ]
    rw [show k + 1 + i = k + (i + 1) by omega]
theorem penum_get (xs : List α) (i : Nat) : (penum xs)[i]? = (xs[i]?).map fun x => ((i : Int), x) := by
  unfold penum; rw [penumF_get, Nat.zero_add]
/-- a walk over an enumerated list: what stands at a place -/
theorem penum_split {xs : List α} {pre post : List (Int × α)} {p : Int × α} (h : penum xs = pre ++ p :: post) : ∃ i : Nat, i = pre.length ∧ p.1 = (i : Int) ∧ xs[i]? = some p.2 ∧ pre = penum (xs.take i) := by
  have hg : (penum xs)[pre.length]? = some p := by rw [h]; simp
  rw [penum_get] at hg
  cases hx : xs[pre.length]? with
  | none => rw [hx] at hg; cases hg
  | some x =>
    rw [hx] at hg
    have hp : ((pre.length : Int), x) = p := by simpa using hg
    subst hp
    refine ⟨pre.length, rfl, rfl, hx, ?_⟩
    have hlt := (List.getElem?_eq_some_iff.mp hx).1
    apply List.ext_getElem?
    intro i
    rw [penum_get]
    by_cases hi : i < pre.length
    · have e1 : (penum xs)[i]? = pre[i]? := by rw [h, List.getElem?_append_left hi]
      rw [← e1, penum_get, List.getElem?_take_of_lt hi]
    · rw [List.getElem?_eq_none (by omega), List.getElem?_eq_none (by rw [List.length_take]; omega)]; rfl
end
section
variable {κ ν : Type} [DecidableEq κ]
abbrev keys (kvs : List (κ × ν)) : List κ := kvs.map (·.1)
theorem dhas_iff {kvs : List (κ × ν)} {k : κ} : dhas kvs k = true ↔ k ∈ keys kvs := by
  unfold dhas keys
  rw [List.any_eq_true, List.mem_map]
  constructor
  · rintro ⟨p, h1, h2⟩; exact ⟨p, h1, by simpa using h2⟩
  · rintro ⟨p, h1, h2⟩; exact ⟨p, h1, by simpa using h2⟩
theorem dget_none {kvs : List (κ × ν)} {k : κ} : dget kvs k = none ↔ k ∉ keys kvs := by
  unfold dget keys
  rw [Option.map_eq_none_iff, List.find?_eq_none, List.mem_map]
  constructor
  · rintro h ⟨p, h1, h2⟩; exact h p h1 (by simpa using h2)
  · intro h p h1 h2; exact h ⟨p, h1, by simpa using h2⟩
theorem dget_mem {kvs : List (κ × ν)} {k : κ} {v : ν} (h : dget kvs k = some v) : (k, v) ∈ kvs := by
  unfold dget at h
  rw [Option.map_eq_some_iff] at h
  obtain ⟨p, h1, h2⟩ := h
  have := List.find?_some h1
  have hk : p.1 = k := by simpa using this
  rw [← hk, ← h2]
  exact List.mem_of_find?_eq_some h1
theorem dget_some {kvs : List (κ × ν)} {k : κ} (h : k ∈ keys kvs) : ∃ v, dget kvs k = some v := by
  cases e : dget kvs k with
  | none => exact absurd h (dget_none.mp e)
  | some v => exact ⟨v, rfl⟩
theorem dget_of_mem {kvs : List (κ × ν)} {k : κ} {v : ν} (hn : (keys kvs).Nodup) (h : (k, v) ∈ kvs) : dget kvs k = some v := by
  induction kvs with
  | nil => cases h
  | cons p r ih =>
    unfold dget
    rw [List.find?_cons]
    by_cases e : p.1 = k
    · rw [show decide (p.1 = k) = true by simp [e]]
      rcases List.mem_cons.mp h with h | h
      · rw [← h]; rfl
      · exfalso
        have := (List.nodup_cons.mp hn).1
        exact this (List.mem_map.mpr ⟨(k, v), h, e.symm⟩)
    · rw [show decide (p.1 = k) = false by simp [e]]
      rcases List.mem_cons.mp h with h | h
      · rw [← h] at e; exact absurd rfl e
      · exact ih (List.nodup_cons.mp hn).2 h
theorem dput_eq (kvs : List (κ × ν)) (k : κ) (v : ν) : dput kvs k v = if dhas kvs k = true then kvs.map (fun p => if p.1 = k then (p.1, v) else p) else kvs ++ [(k, v)] := rfl
theorem keys_dput (kvs : List (κ × ν)) (k : κ) (v : ν) : keys (dput kvs k v) = if k ∈ keys kvs then keys kvs else keys kvs ++ [k] := by
  rw [dput_eq]; unfold keys
  by_cases h : k ∈ keys kvs
  · rw [if_pos (show dhas kvs k = true from dhas_iff.mpr h), if_pos h, List.map_map]
    apply List.map_congr_left
    intro p _
    by_cases e : p.1 = k
    · simp [e]
    · simp [e]
  · rw [if_neg (show ¬ dhas kvs k = true from fun z => h (dhas_iff.mp z)), if_neg h, List.map_append]; rfl
theorem mem_keys_dput {kvs : List (κ × ν)} {k x : κ} {v : ν} : x ∈ keys (dput kvs k v) ↔ x = k ∨ x ∈ keys kvs := by
  rw [keys_dput]
  split
  · constructor
    · exact .inr
    · rintro (rfl | h)
      · assumption
      · exact h
  · rw [List.mem_append, List.mem_singleton, or_comm]
theorem dput_nodup {kvs : List (κ × ν)} {k : κ} {v : ν} (h : (keys kvs).Nodup) : (keys (dput kvs k v)).Nodup := by
  rw [keys_dput]
  split
  · exact h
  · rename_i hk
    rw [List.nodup_append]
    exact ⟨h, by simp, fun a ha b hb => by rw [List.mem_singleton] at hb; subst hb; exact fun e => hk (e ▸ ha)⟩
theorem dget_dput (kvs : List (κ × ν)) (k x : κ) (v : ν) : dget (dput kvs k v) x = if x = k then some v else dget kvs x := by
  rw [dput_eq]
  by_cases h : dhas kvs k = true
  · rw [if_pos h]
    have hk := dhas_iff.mp h
    clear h
    induction kvs with
    | nil => cases hk
    | cons p r ih =>
      unfold dget
      rw [List.map_cons, List.find?_cons, List.find?_cons]
      by_cases e : p.1 = k
      · rw [if_pos e]
        by_cases hx : x = k
        · subst hx; simp [e]
        · rw [show decide ((p.1, v).1 = x) = false by simp; intro z; exact hx (z.symm.trans e)]
          rw [if_neg hx]
          by_cases hr : k ∈ keys r
          · have := ih hr; rw [if_neg hx] at this; exact this
          · have : r.map (fun p => if p.1 = k then (p.1, v) else p) = r := by
              rw [show r = r.map id by simp, List.map_map]
              apply List.map_congr_left
              intro q hq
              have : q.1 ≠ k := fun z => hr (List.mem_map.mpr ⟨q, hq, z⟩)
              simp [this]
            rw [this]
      · rw [if_neg e]
        have hr : k ∈ keys r := by
          rcases List.mem_cons.mp hk with z | z
          · exact absurd z.symm e
          · exact z
        by_cases hx : p.1 = x
        · rw [show decide (p.1 = x) = true by simp [hx]]
          rw [if_neg (fun z => e (hx.trans z))]
        · rw [show decide (p.1 = x) = false by simp [hx]]
          exact ih hr
  · rw [if_neg h]
    have hk : k ∉ keys kvs := fun z => h (dhas_iff.mpr z)
    unfold dget
    rw [List.find?_append]
    by_cases hx : x = k
    · subst hx
      have := dget_none.mpr hk
      unfold dget at this
      rw [Option.map_eq_none_iff] at this
      rw [this, if_pos rfl]; simp
    · rw [if_neg hx]
      have : List.find? (fun p : κ × ν => decide (p.1 = x)) [(k, v)] = none := by
        rw [List.find?_eq_none]; intro p hp; rw [List.mem_singleton] at hp; subst hp; simp; exact fun z => hx z.symm
      rw [this, Option.or_none]
theorem dput_new {kvs : List (κ × ν)} {k : κ} {v : ν} (h : k ∉ keys kvs) : dput kvs k v = kvs ++ [(k, v)] := by
  rw [dput_eq, if_neg (show ¬ dhas kvs k = true from fun z => h (dhas_iff.mp z))]
theorem mem_keys_foldl (ps : List (κ × ν)) : ∀ (acc : List (κ × ν)) (x : κ), x ∈ keys (ps.foldl (fun acc p => dput acc p.1 p.2) acc) ↔ x ∈ keys acc ∨ x ∈ keys ps := by
  induction ps with
  | nil => intro acc x; simp
  | cons p r ih =>
    intro acc x
    rw [List.foldl_cons, ih, mem_keys_dput]
    show _ ↔ _ ∨ x ∈ p.1 :: keys r
    rw [List.mem_cons]
    constructor
    · rintro ((h | h) | h)
      · exact .inr (.inl h)
      · exact .inl h
      · exact .inr (.inr h)
    · rintro (h | h | h)
      · exact .inl (.inr h)
      · exact .inl (.inl h)
      · exact .inr h
theorem mem_keys_dmk {ps : List (κ × ν)} {x : κ} : x ∈ keys (dmk ps) ↔ x ∈ keys ps := by
  unfold dmk; rw [mem_keys_foldl]; simp
theorem foldl_nodup (ps : List (κ × ν)) : ∀ acc : List (κ × ν), (keys acc).Nodup → (keys (ps.foldl (fun acc p => dput acc p.1 p.2) acc)).Nodup := by
  induction ps with
  | nil => intro acc h; exact h
  | cons p r ih => intro acc h; exact ih _ (dput_nodup h)
theorem dmk_nodup (ps : List (κ × ν)) : (keys (dmk ps)).Nodup := foldl_nodup ps [] List.nodup_nil
theorem dmk_of_nodup {ps : List (κ × ν)} (h : (keys ps).Nodup) : dmk ps = ps := by
  have key : ∀ (ps acc : List (κ × ν)), (keys (acc ++ ps)).Nodup → ps.foldl (fun acc p => dput acc p.1 p.2) acc = acc ++ ps := by
    intro ps
    induction ps with
    | nil => intro acc _; simp
    | cons p r ih =>
      intro acc h
      rw [List.foldl_cons]
      have hp : p.1 ∉ keys acc := by
        intro z
        unfold keys at h z
        rw [List.map_append, List.nodup_append] at h
        exact h.2.2 _ z p.1 (by simp) rfl
      rw [dput_new hp, ih _ (by rw [List.append_assoc]; exact h), List.append_assoc]; rfl
  exact key ps [] h
end
/-- x can be come to from b by n steps -/
def Wkn (nbr : Int → List Int) (b : Int) : Nat → Int → Prop
  | 0, x => x = b
  | n + 1, x => ∃ y, Wkn nbr b n y ∧ x ∈ nbr y
def Dst (nbr : Int → List Int) (b : Int) (n : Nat) (x : Int) : Prop := Wkn nbr b n x ∧ ∀ m, m < n → ¬ Wkn nbr b m x
section
variable {nbr : Int → List Int} {b : Int}
theorem Dst.uniq {n m : Nat} {x : Int} (h : Dst nbr b n x) (k : Dst nbr b m x) : n = m := by
  rcases Nat.lt_trichotomy n m with z | z | z
  · exact absurd h.1 (k.2 n z)
  · exact z
  · exact absurd k.1 (h.2 m z)
/-- the places found up to level k -/
structure BInv (nbr : Int → List Int) (b : Int) (k : Nat) (found : List (Int × Int)) (level : List Int) : Prop where
  nd : (keys found).Nodup
  has : ∀ x, x ∈ keys found ↔ ∃ n, n ≤ k ∧ Wkn nbr b n x
  val : ∀ x d, dget found x = some d → ∃ n : Nat, d = (n : Int) ∧ Dst nbr b n x
  lv : ∀ x, x ∈ level ↔ Dst nbr b k x
  lnd : level.Nodup
theorem BInv.at {k : Nat} {found : List (Int × Int)} {level : List Int} (h : BInv nbr b k found level) {x : Int} {n : Nat} (hd : Dst nbr b n x) (hn : n ≤ k) : dget found x = some (n : Int) := by
  obtain ⟨v, hv⟩ := dget_some ((h.has x).mpr ⟨n, hn, hd.1⟩)
  obtain ⟨m, h1, h2⟩ := h.val x v hv
  rw [hv, h1, h2.uniq hd]
end
inductive Rch (R : Int → Int → Prop) : Int → Int → Prop
  | refl (x : Int) : Rch R x x
  | step {x y z : Int} : Rch R x y → R y z → Rch R x z
theorem Rch.trans {R : Int → Int → Prop} {x y z : Int} (h : Rch R x y) (k : Rch R y z) : Rch R x z := by
  induction k with
  | refl => exact h
  | step _ r ih => exact ih.step r
theorem Rch.one {R : Int → Int → Prop} {x y : Int} (h : R x y) : Rch R x y := (Rch.refl x).step h
theorem Rch.symm {R : Int → Int → Prop} (hs : ∀ a b, R a b → R b a) {x y : Int} (h : Rch R x y) : Rch R y x := by
  induction h with
  | refl => exact .refl _
  | step _ r ih => exact (Rch.one (hs _ _ r)).trans ih
/-- two steps on a bench -/
def RA (e a b : Int) (x y : Int) : Prop := 0 ≤ x ∧ x ≤ e ∧ 0 ≤ y ∧ y ≤ e ∧ (y = x + a ∨ y = x - a ∨ y = x + b ∨ y = x - b)
theorem RA.symm {e a b x y : Int} (h : RA e a b x y) : RA e a b y x := by unfold RA at *; omega
section
variable {nbr : Int → List Int} {b : Int}
theorem Wkn.add {n m : Nat} {x y : Int} (h : Wkn nbr b n y) (k : Wkn nbr y m x) : Wkn nbr b (n + m) x := by
  induction m generalizing x with
  | zero => cases (show x = y from k); exact h
  | succ m ih => obtain ⟨z, h1, h2⟩ := k; exact ⟨z, ih h1, h2⟩
theorem Wkn.one {x : Int} (h : x ∈ nbr b) : Wkn nbr b 1 x := ⟨b, rfl, h⟩
theorem Wkn.inv {P : Int → Prop} (hs : ∀ x y, P x → y ∈ nbr x → P y) (hb : P b) : ∀ {n : Nat} {x : Int}, Wkn nbr b n x → P x
  | 0, x, h => by cases (show x = b from h); exact hb
  | n + 1, x, ⟨y, h1, h2⟩ => hs y x (Wkn.inv hs hb h1) h2
theorem Wkn.symm {P : Int → Prop} (hs : ∀ x y, P x → y ∈ nbr x → P y ∧ x ∈ nbr y) (hb : P b) : ∀ {n : Nat} {x : Int}, Wkn nbr b n x → Wkn nbr x n b
  | 0, x, h => by cases (show x = b from h); exact rfl
  | n + 1, x, ⟨y, h1, h2⟩ => by
    have hy : P y := Wkn.inv (fun x y a c => (hs x y a c).1) hb h1
    have := (Wkn.one (hs y x hy h2).2).add (Wkn.symm hs hb h1)
    rw [Nat.add_comm] at this; exact this
theorem Dst.symm {P : Int → Prop} (hs : ∀ x y, P x → y ∈ nbr x → P y ∧ x ∈ nbr y) (hb : P b) {n : Nat} {x : Int} (h : Dst nbr b n x) : Dst nbr x n b := by
  have hx : P x := Wkn.inv (fun x y a c => (hs x y a c).1) hb h.1
  exact ⟨h.1.symm hs hb, fun m hm hw => h.2 m hm (hw.symm hs hx)⟩
end
section
variable {α β γ : Type} {en f : α → D} {g : β → D} {n : Nat}
theorem ltC_irrefl (a : α) : ltC en a a = false := (PyProof.Rows.listOrd PyProof.Rows.itemOrd).irrefl _
theorem ltC_trans {a b c : α} (h1 : ltC en a b = true) (h2 : ltC en b c = true) : ltC en a c = true := (PyProof.Rows.listOrd PyProof.Rows.itemOrd).trans _ _ _ h1 h2
theorem ltC_asymm {a b : α} (h : ltC en a b = true) : ltC en b a = false := by
  cases e : ltC en b a with
  | false => rfl
  | true => have := ltC_trans h e; rw [ltC_irrefl] at this; cases this
theorem leC_trans {a b c : α} (h1 : leC en a b = true) (h2 : leC en b c = true) : leC en a c = true := by
  unfold leC at *
  rw [Bool.not_eq_true'] at *
  cases e : ltC en c a with
  | false => rfl
  | true =>
    rcases (PyProof.Rows.listOrd PyProof.Rows.itemOrd).negTrans _ (PySem.W.keyToks (toP (en b))) _ e with z | z
    · have z : ltC en c b = true := z
      rw [h2] at z; cases z
    · have z : ltC en b a = true := z
      rw [h1] at z; cases z
theorem leC_total (a b : α) : (leC en a b || leC en b a) = true := by
  unfold leC
  cases e : ltC en b a with
  | false => rfl
  | true => rw [ltC_asymm e]; rfl
theorem dsort_perm (xs : List α) : (dsort en xs).Perm xs := List.mergeSort_perm _ _
theorem dsort_sorted (xs : List α) : (dsort en xs).Pairwise fun a b => leC en a b = true := List.pairwise_mergeSort (le := leC en) (fun _ _ _ h1 h2 => leC_trans h1 h2) leC_total xs
theorem ltC_int (a b : Int) : ltC eI a b = decide (a < b) := PySem.W.dataLt_int a b
theorem ltC_bool (a b : Bool) : ltC eB a b = (!a && b) := by
  show PySem.W.dataLt (.bool a) (.bool b) = _
  rw [PySem.W.dataLt_bool]; cases a <;> cases b <;> rfl
theorem eqv_iff (h : EqC en n) (a b : α) : PyData.eqv (toP (en a)) (toP (en b)) = true ↔ a = b := h.eq a b
theorem ltC_pair [DecidableEq α] [DecidableEq β] (hf : OrC f n) (hg : OrC g n) (a b : α × β) : ltC (eP f g) a b = if a.1 = b.1 then ltC g a.2 b.2 else ltC f a.1 b.1 := by
  show PySem.W.dataLt (.tuple [toP (f a.1), toP (g a.2)]) (.tuple [toP (f b.1), toP (g b.2)]) = _
  rw [PySem.W.dataLt_pair (hf.al _ _) (hg.al _ _)]
  by_cases e : a.1 = b.1
  · rw [if_pos ((eqv_iff hf.eqc _ _).mpr e), if_pos e]
    by_cases e2 : a.2 = b.2
    · rw [if_pos ((eqv_iff hg.eqc _ _).mpr e2), e2, ltC_irrefl]
    · rw [if_neg (fun z => e2 ((eqv_iff hg.eqc _ _).mp z))]; rfl
  · rw [if_neg (fun z => e ((eqv_iff hf.eqc _ _).mp z)), if_neg e]; rfl
end
open Out (Rt)
theorem compS_none {α β : Type} {f : Unit → α → Out (Option β × Unit)} (xs : List α) (acc : List β) (h : ∀ x, x ∈ xs → f () x = .ok (none, ())) : Out.compS f xs acc () = .ok (acc, ()) := by
  rw [Out.compS_unit (o := fun _ => none) xs acc h]
  simp
def ddup {α : Type} [DecidableEq α] : List α → List α
  | [] => []
  | x :: l => if x ∈ ddup l then ddup l else x :: ddup l
section
variable {α : Type} [DecidableEq α]
theorem mem_ddup {y : α} : ∀ {l : List α}, y ∈ ddup l ↔ y ∈ l
  | [] => Iff.rfl
  | x :: l => by
    unfold ddup
    by_cases h : x ∈ ddup l
    · rw [if_pos h, mem_ddup (l := l), List.mem_cons]
      exact ⟨.inr, fun z => z.elim (fun e => by rw [e]; exact mem_ddup.mp h) id⟩
    · rw [if_neg h, List.mem_cons, List.mem_cons, mem_ddup (l := l)]
theorem nodup_ddup : ∀ l : List α, (ddup l).Nodup
  | [] => List.nodup_nil
  | x :: l => by
    unfold ddup
    by_cases h : x ∈ ddup l
    · rw [if_pos h]; exact nodup_ddup l
    · rw [if_neg h]; exact List.nodup_cons.mpr ⟨h, nodup_ddup l⟩
end
theorem flat_IB (b : Int × Bool) : flatP (toP (eP eI eB b)) = true := rfl
theorem nkD_IB {a b : Int × Bool} (h : nkD (eP eI eB a) = nkD (eP eI eB b)) : a = b := by
  obtain ⟨i, x⟩ := a
  obtain ⟨j, y⟩ := b
  have h : NestedKey.tup [.num i, .num (if x = true then 1 else 0)] = NestedKey.tup [.num j, .num (if y = true then 1 else 0)] := h
  injection h with h
  injection h with h1 h
  injection h with h2 _
  injection h1 with h1
  injection h2 with h2
  subst h1
  cases x <;> cases y <;> first | rfl | exact absurd h2 (by decide)
theorem ltC_IB (a b : Int × Bool) : ltC (eP eI eB) a b = if a.1 = b.1 then (!a.2 && b.2) else decide (a.1 < b.1) := by
  rw [ltC_pair orc_int orc_bool, ltC_int, ltC_bool]
theorem ltC_IB_total {a b : Int × Bool} (h : a ≠ b) : ltC (eP eI eB) a b = true ∨ ltC (eP eI eB) b a = true := by
  obtain ⟨i, x⟩ := a
  obtain ⟨j, y⟩ := b
  rw [ltC_IB, ltC_IB]
  by_cases e : i = j
  · subst e
    rw [if_pos rfl, if_pos rfl]
    cases x <;> cases y <;> first | exact absurd rfl h | exact .inl rfl | exact .inr rfl
  · rw [if_neg e, if_neg (fun z => e z.symm)]
    rcases Int.lt_trichotomy i j with z | z | z
    · exact .inl (decide_eq_true z)
    · exact absurd z e
    · exact .inr (decide_eq_true z)
/-- the different ones, ascending -/
def uIB (xs : List (Int × Bool)) : List (Int × Bool) := dsort (eP eI eB) (ddup xs)
theorem dsort_ltIB {xs : List (Int × Bool)} (h : xs.Nodup) : (dsort (eP eI eB) xs).Pairwise fun a b => ltC (eP eI eB) a b = true := by
  refine ((dsort_sorted (en := eP eI eB) xs).and ((dsort_perm (en := eP eI eB) xs).nodup_iff.mpr h)).imp fun {a b} ⟨p, q⟩ => ?_
  rcases ltC_IB_total q with z | z
  · exact z
  · unfold leC at p
    rw [z] at p; cases p
theorem lt_extIB {xs ys : List (Int × Bool)} (hx : xs.Pairwise fun a b => ltC (eP eI eB) a b = true) (hy : ys.Pairwise fun a b => ltC (eP eI eB) a b = true) (h : ∀ b, b ∈ xs ↔ b ∈ ys) : xs = ys := by
  have nd : ∀ {zs : List (Int × Bool)}, (zs.Pairwise fun a b => ltC (eP eI eB) a b = true) → zs.Nodup := fun z => z.imp fun {a b} hab e => by subst e; rw [ltC_irrefl] at hab; cases hab
  refine List.Perm.eq_of_pairwise (le := fun a b => leC (eP eI eB) a b = true) (fun a b _ _ h1 h2 => ?_) (hx.imp fun {a b} z => by unfold leC; rw [ltC_asymm z]; rfl) (hy.imp fun {a b} z => by unfold leC; rw [ltC_asymm z]; rfl) ((List.perm_ext_iff_of_nodup (nd hx) (nd hy)).mpr h)
  by_cases e : a = b
  · exact e
  · unfold leC at h1 h2
    rcases ltC_IB_total e with z | z
    · rw [z] at h2; cases h2
    · rw [z] at h1; cases h1
theorem uIB_lt (xs : List (Int × Bool)) : (uIB xs).Pairwise fun a b => ltC (eP eI eB) a b = true := dsort_ltIB (nodup_ddup xs)
theorem mem_uIB {xs : List (Int × Bool)} {b : Int × Bool} : b ∈ uIB xs ↔ b ∈ xs := by
  unfold uIB
  rw [(dsort_perm (en := eP eI eB) (ddup xs)).mem_iff, mem_ddup]
section
variable {X : Cy} {a : Expr} {r : Env2} {G : GD} {pos p0 p1 p2 : Pos}
theorem we_sortUIB {Q : Res → Env2 → GD → Prop} (hcalm : X.calm = true) (hu : X.A.units + 64 < cLine) (hg : Gl X "sorted") (hm : X.mg "sorted" = none) (hg2 : Gl X "set") (hm2 : X.mg "set" = none)
    (h : WE X a r G fun x r1 G1 => ∃ bs : List (Int × Bool), VwR r1 G1 x (.lst (bs.map (eP eI eB))) ∧ (ddup bs).length ≤ 18 ∧ Q (.fr (.lst ((uIB bs).map (eP eI eB)))) r1 G1)
    (he : starEach [.Call (.Name "set" p1) [a] [] p2] X.env = (false, eval (.Call (.Name "set" p1) [a] [] p2) X.env) :: starEach [] X.env := by rfl) (hpl : (backTo pos (starEach [] X.env)).any (·.1) = false := by rfl)
    (he2 : starEach [a] X.env = (false, eval a X.env) :: starEach [] X.env := by rfl) (hpl2 : (backTo p2 (starEach [] X.env)).any (·.1) = false := by rfl) :
    WE X (.Call (.Name "sorted" p0) [.Call (.Name "set" p1) [a] [] p2] [] pos) r G Q :=
  we_sortSetN (orc_pair (orc_int) (orc_bool)) flat_IB (fun bs => so_pair bs) hcalm hu hg hm hg2 hm2 (h.mono fun x r1 G1 ⟨bs, q1, q2, q3⟩ => ⟨bs, q1, fun ks h1 h2 => by
    have := nodup_lenD ks ((ddup bs).map fun b => nkD (eP eI eB b)) h1 fun k hk => by
      obtain ⟨b, hb, e⟩ := h2 k hk
      exact List.mem_map.mpr ⟨b, mem_ddup.mpr hb, e.symm⟩
    rw [List.length_map] at this
    exact Nat.le_trans this q2, fun out h1 h2 h3 => by
    have hn : out.Nodup := by
      have : (out.map fun b => nkD (eP eI eB b)).Pairwise (· ≠ ·) := h3
      rw [List.pairwise_map] at this
      exact this.imp fun {a b} z e => z (by rw [e])
    rw [lt_extIB (dsort_ltIB hn) (uIB_lt bs) fun b => by
      rw [mem_uIB, (dsort_perm (en := eP eI eB) out).mem_iff]
      exact ⟨h1 b, fun hb => by obtain ⟨c, hc, e⟩ := h2 b hb; rw [← nkD_IB e]; exact hc⟩]
    exact q3⟩) he hpl he2 hpl2
end
open Out (Rt)
def topS (i : Nat) : Stmt := PySem.Challenge.pw_rulerbits_k32_whole_measurings_to_be_mad.main.body.getD i (.Pass ⟨0, 0, 0, 0⟩)
abbrev s_is_number : Stmt := topS 14
theorem sc_is_number : FnScope ["value", "lowest", "highest"] ["value", "lowest", "highest"] (defScope s_is_number) := ⟨rfl, rfl, rfl, by decide +kernel, rfl, by decide +kernel, by decide +kernel⟩
abbrev s_mirrored : Stmt := topS 15
theorem sc_mirrored : FnScope ["marks", "mark"] ["marks"] (defScope s_mirrored) := ⟨rfl, rfl, rfl, by decide +kernel, rfl, by decide +kernel, by decide +kernel⟩
abbrev s_Ruler_init : Stmt := inClass (topS 16) 1
theorem sc_Ruler_init : FnScope ["self", "marks", "error", "index", "mark", "lowest"] ["self", "marks", "error"] (defScope s_Ruler_init) := ⟨rfl, rfl, rfl, by decide +kernel, rfl, by decide +kernel, by decide +kernel⟩
abbrev s_Ruler_marks : Stmt := inClass (topS 16) 2
theorem sc_Ruler_marks : FnScope ["self"] ["self"] (defScope s_Ruler_marks) := ⟨rfl, rfl, rfl, by decide +kernel, rfl, by decide +kernel, by decide +kernel⟩
abbrev s_Ruler_error : Stmt := inClass (topS 16) 3
theorem sc_Ruler_error : FnScope ["self"] ["self"] (defScope s_Ruler_error) := ⟨rfl, rfl, rfl, by decide +kernel, rfl, by decide +kernel, by decide +kernel⟩
abbrev s_validate_measurings : Stmt := topS 21
theorem sc_validate_measurings : FnScope ["rack", "measurings", "index", "name", "turned", "offset"] ["rack", "measurings"] (defScope s_validate_measurings) := ⟨rfl, rfl, rfl, by decide +kernel, rfl, by decide +kernel, by decide +kernel⟩
abbrev s_validate_lengths_of_things : Stmt := topS 22
theorem sc_validate_lengths_of_things : FnScope ["values", "value"] ["values"] (defScope s_validate_lengths_of_things) := ⟨rfl, rfl, rfl, by decide +kernel, rfl, by decide +kernel, by decide +kernel⟩
abbrev s_read_at : Stmt := topS 23
theorem sc_read_at : FnScope ["marks", "length", "index", "mark"] ["marks", "length"] (defScope s_read_at) := ⟨rfl, rfl, rfl, by decide +kernel, rfl, by decide +kernel, by decide +kernel⟩
abbrev s_all_results : Stmt := topS 24
theorem sc_all_results : FnScope ["rack", "measuring", "length", "name", "turned", "offset", "ruler", "marks", "error", "found", "slip"] ["rack", "measuring", "length"] (defScope s_all_results) := ⟨rfl, rfl, rfl, by decide +kernel, rfl, by decide +kernel, by decide +kernel⟩
abbrev s_parted : Stmt := topS 25
theorem sc_parted : FnScope ["rack", "values", "measuring", "found", "value", "result"] ["rack", "values", "measuring"] (defScope s_parted) := ⟨rfl, rfl, rfl, by decide +kernel, rfl, by decide +kernel, by decide +kernel⟩
abbrev s_next_measuring : Stmt := topS 26
theorem sc_next_measuring : FnScope ["rack", "lengths", "measurings", "worst", "measuring", "some"] ["rack", "lengths", "measurings"] (defScope s_next_measuring) := ⟨rfl, rfl, rfl, by decide +kernel, rfl, by decide +kernel, by decide +kernel⟩
abbrev s_Settler_init : Stmt := inClass (topS 27) 0
theorem sc_Settler_init : FnScope ["self", "rack"] ["self", "rack"] (defScope s_Settler_init) := ⟨rfl, rfl, rfl, by decide +kernel, rfl, by decide +kernel, by decide +kernel⟩
abbrev s_Settler_is_settled : Stmt := inClass (topS 27) 1
theorem sc_Settler_is_settled : FnScope ["self", "values", "measurings", "count", "key"] ["self", "values", "measurings", "count"] (defScope s_Settler_is_settled) := ⟨rfl, rfl, rfl, by decide +kernel, rfl, by decide +kernel, by decide +kernel⟩
abbrev s_Settler_has_good : Stmt := inClass (topS 27) 2
theorem sc_Settler_has_good : FnScope ["self", "values", "measurings", "count", "index", "measuring", "rest", "parts", "some"] ["self", "values", "measurings", "count"] (defScope s_Settler_has_good) := ⟨rfl, rfl, rfl, by decide +kernel, rfl, by decide +kernel, by decide +kernel⟩
abbrev s_fewest_measurings : Stmt := topS 28
theorem sc_fewest_measurings : FnScope ["rack", "lengths", "measurings", "settler", "count"] ["rack", "lengths", "measurings"] (defScope s_fewest_measurings) := ⟨rfl, rfl, rfl, by decide +kernel, rfl, by decide +kernel, by decide +kernel⟩
abbrev s_is_name : Stmt := topS 33
theorem sc_is_name : FnScope ["name", "letter"] ["name"] (defScope s_is_name) := ⟨rfl, rfl, rfl, by decide +kernel, rfl, by decide +kernel, by decide +kernel⟩
abbrev s_Rack_init : Stmt := inClass (topS 34) 1
theorem sc_Rack_init : FnScope ["self", "rulers", "place", "name"] ["self", "rulers"] (defScope s_Rack_init) := ⟨rfl, rfl, rfl, by decide +kernel, rfl, by decide +kernel, by decide +kernel⟩
abbrev s_Rack_getitem : Stmt := inClass (topS 34) 4
theorem sc_Rack_getitem : FnScope ["self", "name"] ["self", "name"] (defScope s_Rack_getitem) := ⟨rfl, rfl, rfl, by decide +kernel, rfl, by decide +kernel, by decide +kernel⟩
abbrev s_Rack_contains : Stmt := inClass (topS 34) 6
theorem sc_Rack_contains : FnScope ["self", "name"] ["self", "name"] (defScope s_Rack_contains) := ⟨rfl, rfl, rfl, by decide +kernel, rfl, by decide +kernel, by decide +kernel⟩
abbrev s_law_mix : Stmt := topS 36
theorem sc_law_mix : FnScope ["_law_script", "_law_seed", "_law_state", "_law_cell"] ["_law_script", "_law_seed"] (defScope s_law_mix) := ⟨rfl, rfl, rfl, by decide +kernel, rfl, by decide +kernel, by decide +kernel⟩
abbrev s_law_next : Stmt := topS 37
theorem sc_law_next : FnScope ["_law_h", "_law_limit", "_law_cell"] ["_law_h", "_law_limit"] (defScope s_law_next) := ⟨rfl, rfl, rfl, by decide +kernel, rfl, by decide +kernel, by decide +kernel⟩
abbrev s_law_alike : Stmt := topS 38
theorem sc_law_alike : FnScope ["_law_found", "_law_due", "_law_k"] ["_law_found", "_law_due"] (defScope s_law_alike) := ⟨rfl, rfl, rfl, by decide +kernel, rfl, by decide +kernel, by decide +kernel⟩
abbrev s_law_marks : Stmt := topS 39
theorem sc_law_marks : FnScope ["_law_h", "_law_most", "_law_wide", "_law_found", "_law_k"] ["_law_h", "_law_most", "_law_wide"] (defScope s_law_marks) := ⟨rfl, rfl, rfl, by decide +kernel, rfl, by decide +kernel, by decide +kernel⟩
abbrev s_law_drawn : Stmt := topS 40
theorem sc_law_drawn : FnScope ["_law_h", "_law_most", "_law_wide", "_law_found", "_law_name"] ["_law_h", "_law_most", "_law_wide"] (defScope s_law_drawn) := ⟨rfl, rfl, rfl, by decide +kernel, rfl, by decide +kernel, by decide +kernel⟩
abbrev s_law_rack : Stmt := topS 41
theorem sc_law_rack : FnScope ["_law_drawn_here", "_law_name"] ["_law_drawn_here"] (defScope s_law_rack) := ⟨rfl, rfl, rfl, by decide +kernel, rfl, by decide +kernel, by decide +kernel⟩
abbrev s_law_read : Stmt := topS 42
theorem sc_law_read : FnScope ["_law_marks_here", "_law_end", "_law_before", "_law_k"] ["_law_marks_here", "_law_end"] (defScope s_law_read) := ⟨rfl, rfl, rfl, by decide +kernel, rfl, by decide +kernel, by decide +kernel⟩
abbrev s_law_results : Stmt := topS 43
theorem sc_law_results : FnScope ["_law_drawn_here", "_law_measuring_here", "_law_size", "_law_name", "_law_turned", "_law_offset", "_law_marks_here", "_law_error", "_law_found", "_law_slip", "_law_mark"] ["_law_drawn_here", "_law_measuring_here", "_law_size"] (defScope s_law_results) := ⟨rfl, rfl, rfl, by decide +kernel, rfl, by decide +kernel, by decide +kernel⟩
abbrev s_law_measuring : Stmt := topS 44
theorem sc_law_measuring : FnScope ["_law_h", "_law_drawn_here", "_law_names"] ["_law_h", "_law_drawn_here"] (defScope s_law_measuring) := ⟨rfl, rfl, rfl, by decide +kernel, rfl, by decide +kernel, by decide +kernel⟩
abbrev s_law_sizes : Stmt := topS 45
theorem sc_law_sizes : FnScope ["_law_h", "_law_most", "_law_begin", "_law_size"] ["_law_h", "_law_most"] (defScope s_law_sizes) := ⟨rfl, rfl, rfl, by decide +kernel, rfl, by decide +kernel, by decide +kernel⟩
abbrev s_law_parts : Stmt := topS 46
theorem sc_law_parts : FnScope ["_law_drawn_here", "_law_sizes_here", "_law_measuring_here", "_law_found", "_law_size", "_law_result"] ["_law_drawn_here", "_law_sizes_here", "_law_measuring_here"] (defScope s_law_parts) := ⟨rfl, rfl, rfl, by decide +kernel, rfl, by decide +kernel, by decide +kernel⟩
abbrev s_law_least : Stmt := topS 47
theorem sc_law_least : FnScope ["_law_drawn_here", "_law_sizes_here", "_law_measurings", "_law_best", "_law_k", "_law_parts_here", "_law_rest", "_law_one"] ["_law_drawn_here", "_law_sizes_here", "_law_measurings"] (defScope s_law_least) := ⟨rfl, rfl, rfl, by decide +kernel, rfl, by decide +kernel, by decide +kernel⟩
abbrev s_law : Stmt := topS 48
theorem sc_law : FnScope ["_law_script", "_law_h", "_law_turn", "_law_drawn_here", "_law_rack_here", "_law_sizes_here", "_law_measurings", "_law_worst", "_law_measuring_here", "_law_parts_here", "_law_due", "_law_k", "_law_one"] ["_law_script"] (defScope s_law) := ⟨rfl, rfl, rfl, by decide +kernel, rfl, by decide +kernel, by decide +kernel⟩
abbrev z_abcdefghijklmnopqrst : S := ⟨"abcdefghijklmnopqrstuvwxyz", by decide +kernel⟩
abbrev z_ash : S := ⟨"ash", by decide +kernel⟩
abbrev z_bay : S := ⟨"bay", by decide +kernel⟩
abbrev z_elm : S := ⟨"elm", by decide +kernel⟩
abbrev z_fir : S := ⟨"fir", by decide +kernel⟩
abbrev z_oak : S := ⟨"oak", by decide +kernel⟩
abbrev z_yew : S := ⟨"yew", by decide +kernel⟩
instance dec_Settler_known : DecidableEq (List Int × List ((S × Bool × Int)) × Int) := (@instDecidableEqProd _ _ (@instDecidableEqList _ (inferInstance : DecidableEq Int)) (@instDecidableEqProd _ _ (@instDecidableEqList _ (@instDecidableEqProd _ _ (inferInstance : DecidableEq S) (@instDecidableEqProd _ _ (inferInstance : DecidableEq Bool) (inferInstance : DecidableEq Int)))) (inferInstance : DecidableEq Int)))
structure S_Settler where
  rack_used : Rak
  known : List ((List Int × List ((S × Bool × Int)) × Int) × Bool)
def mixB (ns : List Int) (seed : Int) : Int := ns.foldl (fun s n => (s * 48271 + n % 2147483629 + 1) % 2147483647) seed
def m_law_mix (ns : List Int) (h : ns.length ≤ 63) (seed : Int) : Bh := ⟨(ns, mixB ns seed, 0), h⟩
def m_law_next (m : Int) (bx : Bh) : Out (Int × Bh) :=
  (Out.guard (0 < m ∧ m < 2 ^ 200)).bind fun _ =>
  (Out.get (pix (bx.1.1 ++ [0]) (bx.1.2.2 % (if ((bx.1.1.length : Nat) : Int) > 1 then ((bx.1.1.length : Nat) : Int) else 1)))).bind fun cell =>
  if 1000000000000000000 ≤ cell then
    (Out.get (L2.ixN bx.1.1.length (bx.1.2.2 % ((bx.1.1.length : Nat) : Int)))).bind fun j =>
    (Out.guard (0 < ((bx.1.1.length : Nat) : Int))).bind fun _ => .ok (cell % m, ⟨(bx.1.1.set j (cell / m), bx.1.2), by rw [List.length_set]; exact bx.2⟩)
  else .ok ((bx.1.2.1 * 48271 + cell * 69621 + 11) % 2147483647 / 7 % m, ⟨(bx.1.1, (bx.1.2.1 * 48271 + cell * 69621 + 11) % 2147483647, bx.1.2.2 + 1), bx.2⟩)
def m_is_number (value1 : Int) (lowest2 : Int) (highest3 : Int) : Bool := (true && ((!false) && ((decide (lowest2 ≤ value1)) && (decide (value1 ≤ highest3)))))
def mk_Ruler (marks1 : List Int) (error2 : Int) : Out (Rul) :=
(Out.fold (σ := Unit) (fun s3 (x5 : (Int × Int)) =>
(if (decide (x5.1 = (0 : Int))) = true then (Out.ok (0 : Int)) else ((Out.get (pix marks1 (x5.1 - (1 : Int)))).bind fun x8 =>
Out.ok (x8 + (1 : Int)))).bind fun i7 =>
if ((decide (x5.1 = (12 : Int))) || (!(m_is_number x5.2 i7 (if (decide (x5.1 = (0 : Int))) = true then (0 : Int) else (300 : Int))))) = true then (
Out.no)
else (
Out.ok ())) (penum marks1) ()).bind fun s4 =>
if (decide (((marks1).length : Int) < (2 : Int))) = true then (
Out.no)
else (
if (!(m_is_number error2 (0 : Int) (9 : Int))) = true then (
Out.no)
else (
Out.ok ⟨error2, marks1⟩))
def m_Ruler_marks (self1 : Rul) : List Int := self1.marks
def m_Ruler_error (self1 : Rul) : Int := self1.error
def m_mirrored (marks1 : List Int) : Out (List Int) :=
(Out.compS (fun (s4 : Unit) (x2 : Int) =>
(Out.get (pix marks1 (-(1 : Int)))).bind fun x6 =>
Out.ok (some (x6 - x2), ())) ((marks1).reverse) [] ()).bind fun l5 =>
Out.ok l5.1
def m_is_name (name1 : S) : Out (Bool) :=
(if (!true) = true then Out.ok true else ((Out.guard (name1.1.length ≤ LIM)).bind fun _ =>
Out.ok (!((decide ((1 : Int) ≤ (name1.1.length : Int))) && (decide ((name1.1.length : Int) ≤ (8 : Int))))))).bind fun c2 =>
if c2 = true then (
Out.ok false)
else (
(Out.guard ((chrs name1).length ≤ LIM)).bind fun _ =>
Out.ok (decide ((((chrs name1).filter (fun (x4 : Chr) => !decide (x4 ∈ chrs z_abcdefghijklmnopqrst))).map (fun (x4 : Chr) => x4)) = ([] : List Chr))))
def mk_Rack (rulers1 : List (S × Rul)) : Out (Rak) :=
(Out.fold (σ := Unit) (fun s2 (x4 : (Int × S)) =>
(if (decide (x4.1 = (6 : Int))) = true then Out.ok true else ((m_is_name x4.2).bind fun r7 =>
Out.ok (!r7))).bind fun c6 =>
if c6 = true then (
Out.no)
else (
Out.ok ())) (penum (rulers1.map (·.1))) ()).bind fun s3 =>
if ((rulers1).isEmpty) = true then (
Out.no)
else (
(Out.guard ((rulers1).length < 64)).bind fun _ =>
(Out.compS (fun (s11 : Unit) (x8 : S) =>
(Out.get (dget rulers1 x8)).bind fun x13 =>
Out.ok (some (x8, x13), ())) (ssort (rulers1.map (·.1))) [] ()).bind fun l12 =>
Out.ok ⟨dmk l12.1⟩)
def m_Rack___getitem (self1 : Rak) (name2 : S) : Out (Rul) :=
if (!dhas self1.held name2) = true then (
Out.no)
else (
(Out.get (dget self1.held name2)).bind fun x3 =>
Out.ok x3)
def m_Rack___contains (self1 : Rak) (name2 : S) : Bool := (dhas self1.held name2)
def m_validate_measurings (rack1 : Rak) (measurings2 : List ((S × Bool × Int))) : Out (Unit) :=
(Out.fold (σ := Unit) (fun s3 (x5 : (Int × (S × Bool × Int))) =>
if ((!(m_Rack___contains rack1 x5.2.1)) || (!(m_is_number x5.2.2.2 (0 : Int) (200 : Int)))) = true then (
Out.no)
else (
Out.ok ())) (penum measurings2) ()).bind fun s4 =>
Out.ok ()
def m_validate_lengths_of_things_t (values1 : List Int) : Out (Unit) :=
if (!decide (((values1.filter (fun (x2 : Int) => !(m_is_number x2 (1 : Int) (300 : Int)))).map (fun (x2 : Int) => x2)) = ([] : List Int))) = true then (
Out.no)
else (
Out.ok ())
def m_read_at (marks1 : List Int) (length2 : Int) : Out ((Int × Bool)) :=
(Out.ok ((((marks1.filter (fun (x3 : Int) => decide (x3 ≤ length2))).map (fun (x3 : Int) => x3)).length : Int) - (1 : Int))).bind fun index5 =>
(if (decide ((0 : Int) ≤ index5)) = true then ((Out.get (pix marks1 index5)).bind fun x7 =>
Out.ok (decide (x7 = length2))) else Out.ok false).bind fun c6 =>
Out.ok (index5, c6)
def m_all_results (rack1 : Rak) (measuring2 : (S × Bool × Int)) (length3 : Int) : Out (List ((Int × Bool))) :=
(Out.ok measuring2.1).bind fun name4 =>
(Out.ok measuring2.2.1).bind fun turned5 =>
(Out.ok measuring2.2.2).bind fun offset6 =>
((m_Rack___getitem rack1 name4).nox).bind fun r7 =>
(if turned5 = true then ((m_mirrored (m_Ruler_marks r7)).bind fun r10 =>
Out.ok r10) else (Out.ok (m_Ruler_marks r7))).bind fun i8 =>
(Out.ok (m_Ruler_error r7)).bind fun error13 =>
(Out.guard (RG ((0 : Int) - error13))).bind fun _ =>
(Out.guard (RG (error13 + (1 : Int)))).bind fun _ =>
(Out.guard ((rgI ((0 : Int) - error13) (error13 + (1 : Int))).length ≤ LIM)).bind fun _ =>
(Out.compS (fun (s18 : Unit) (x14 : Int) =>
((m_read_at i8 ((length3 - offset6) + x14)).nox).bind fun r20 =>
Out.ok (some (r20, true), ())) (rgI ((0 : Int) - error13) (error13 + (1 : Int))) [] ()).bind fun l19 =>
(Out.ok (dmk l19.1)).bind fun found21 =>
Out.ok (dsort (eP eI eB) (found21.map (·.1)))
def m_parted (rack1 : Rak) (values2 : List Int) (measuring3 : (S × Bool × Int)) : Out (List ((Int × Bool) × List Int)) :=
(Out.ok ([] : List ((Int × Bool) × List Int))).bind fun found4 =>
(Out.fold (σ := List ((Int × Bool) × List Int)) (fun s5 (x7 : Int) =>
(m_all_results rack1 measuring3 x7).bind fun r12 =>
(Out.fold (σ := List ((Int × Bool) × List Int)) (fun s9 (x11 : (Int × Bool)) =>
(Out.guard (((dget s9 x11).getD ([] : List Int)).length + ([x7]).length ≤ LIM)).bind fun _ =>
(Out.guard ((s9).length < LIM)).bind fun _ =>
(Out.ok (dput s9 x11 (((dget s9 x11).getD ([] : List Int)) ++ [x7]))).bind fun found16 =>
Out.ok found16) r12 s5).bind fun s10 =>
Out.ok s10) values2 found4).bind fun s6 =>
Out.ok s6
def m_next_measuring (rack1 : Rak) (lengths2 : List Int) (measurings3 : List ((S × Bool × Int))) : Out (Option (Int)) :=
(m_validate_measurings rack1 measurings3).bind fun r4 =>
(m_validate_lengths_of_things_t lengths2).bind fun r5 =>
if ((decide (((lengths2).length : Int) = (0 : Int))) || (decide (measurings3 = ([] : List ((S × Bool × Int)))))) = true then (
Out.ok none)
else (
(Out.ok ([] : List Int)).bind fun worst6 =>
(Out.fold (σ := List Int) (fun s7 (x9 : (S × Bool × Int)) =>
(m_parted rack1 lengths2 x9).bind fun r13 =>
(Out.get (maxI ((r13.map (·.2)).map (fun (x12 : List Int) => ((x12).length : Int))))).bind fun x15 =>
(Out.guard ((s7).length < LIM)).bind fun _ =>
(Out.ok (s7 ++ [x15])).bind fun worst17 =>
Out.ok worst17) measurings3 worst6).bind fun s8 =>
(Out.get (minI s8)).bind fun x18 =>
(Out.get (idxI x18 s8)).bind fun x19 =>
Out.ok (some (x19 : Int)))
def mk_Settler (rack1 : Rak) : Out S_Settler :=
Out.ok (⟨rack1, ([] : List ((List Int × List ((S × Bool × Int)) × Int) × Bool))⟩ : S_Settler)
def m_Settler_has_good (rec_ : S_Settler → (List Int) → (List ((S × Bool × Int))) → Int → Out (Bool × S_Settler)) (self1 : S_Settler) (values2 : List Int) (measurings3 : List ((S × Bool × Int))) (count4 : Int) : Out (Bool × S_Settler) :=
(Out.loop (σ := Rak × (List ((List Int × List ((S × Bool × Int)) × Int) × Bool))) (ρ := (Bool × S_Settler)) (fun s5 (x7 : (Int × (S × Bool × Int))) =>
(Out.guard ((pcut measurings3 none (some x7.1)).length + (pcut measurings3 (some (x7.1 + (1 : Int))) none).length ≤ LIM)).bind fun _ =>
(Out.ok ((pcut measurings3 none (some x7.1)) ++ (pcut measurings3 (some (x7.1 + (1 : Int))) none))).bind fun rest13 =>
((m_parted s5.1 values2 x7.2).nox).bind fun r14 =>
(Out.ok (r14.map (·.2))).bind fun parts15 =>
(Out.compS (fun (s16 : S_Settler) (x17 : List Int) =>
((rec_ s16 x17 rest13 (count4 - (1 : Int))).nox).bind fun r22 =>
Out.ok (some r22.1, r22.2)) parts15 [] (⟨s5.1, s5.2⟩ : S_Settler)).bind fun l18 =>
if ((l18.1).all id) = true then (
Out.ok (.rt (true, l18.2)))
else (
Out.ok (.nx (l18.2.rack_used, l18.2.known)))) (penum measurings3) (self1.rack_used, self1.known)).bind fun t => match t with
| .nx s6 => (
Out.ok (false, (⟨s6.1, s6.2⟩ : S_Settler)))
| .rt v => Out.ok v
def m_Settler_is_settled : Nat → S_Settler → (List Int) → (List ((S × Bool × Int))) → Int → Out (Bool × S_Settler)
| 0, _, _, _, _ => Out.no
| n + 1, self1, values2, measurings3, count4 =>
if (decide (((values2).length : Int) < (2 : Int))) = true then (
Out.ok (true, self1))
else (
if (decide (count4 = (0 : Int))) = true then (
Out.ok (false, self1))
else (
(Out.ok (values2, measurings3, count4)).bind fun key5 =>
(if (!dhas self1.known key5) = true then (
(m_Settler_has_good (m_Settler_is_settled n) self1 values2 measurings3 count4).bind fun r10 =>
(Out.guard ((r10.2.known).length < LIM)).bind fun _ =>
Out.ok (dput r10.2.known key5 r10.1, r10.2.rack_used))
else (
Out.ok (self1.known, self1.rack_used)) : Out ((List ((List Int × List ((S × Bool × Int)) × Int) × Bool)) × Rak)).bind fun s6 =>
(Out.get (dget s6.1 key5)).bind fun x15 =>
Out.ok (x15, (⟨s6.2, s6.1⟩ : S_Settler))))
def m_fewest_measurings (rack1 : Rak) (lengths2 : List Int) (measurings3 : List ((S × Bool × Int))) : Out (Option (Int)) :=
(m_validate_measurings rack1 measurings3).bind fun r4 =>
(m_validate_lengths_of_things_t lengths2).bind fun r5 =>
if ((decide ((5 : Int) < ((measurings3).length : Int))) || (decide ((60 : Int) < ((lengths2).length : Int)))) = true then (
Out.no)
else (
((mk_Settler rack1).nox).bind fun r6 =>
(Out.guard (RG (((measurings3).length : Int) + (1 : Int)))).bind fun _ =>
(Out.loop (σ := S_Settler) (ρ := Option (Int)) (fun s9 (x11 : Int) =>
((m_Settler_is_settled 6 s9 lengths2 measurings3 x11).nox).bind fun r16 =>
if r16.1 = true then (
Out.ok (.rt (some x11)))
else (
Out.ok (.nx r16.2))) (rgI 0 (((measurings3).length : Int) + (1 : Int))) r6).bind fun t => match t with
| .nx s10 => (
Out.ok none)
| .rt v => Out.ok v)
def m_law_marks (most1 : Int) (wide2 : Int) (bx : Bh) : Out (List Int × Bh) :=
(Out.ok [(0 : Int)]).bind fun found3 =>
(m_law_next (most1 - (1 : Int)) bx).bind fun r7 =>
(Out.guard (RG ((1 : Int) + r7.1))).bind fun _ =>
(Out.fold (σ := (List Int) × Bh) (fun s4 (x6 : Int) =>
(Out.get (pix s4.1 (-(1 : Int)))).bind fun x10 =>
(m_law_next wide2 s4.2).bind fun r11 =>
(Out.guard ((s4.1).length < LIM)).bind fun _ =>
(Out.ok (s4.1 ++ [(x10 + (1 : Int)) + r11.1])).bind fun found13 =>
Out.ok (found13, r11.2)) (rgI 0 ((1 : Int) + r7.1)) (found3, r7.2)).bind fun s5 =>
Out.ok (s5.1, s5.2)
def m_law_drawn (most1 : Int) (wide2 : Int) (bx : Bh) : Out (List (S × (List Int × Int)) × Bh) :=
(Out.ok ([] : List (S × (List Int × Int)))).bind fun found3 =>
(m_law_next most1 bx).bind fun r7 =>
(Out.fold (σ := (List (S × (List Int × Int))) × Bh) (fun s4 (x6 : S) =>
(m_law_marks (4 : Int) wide2 s4.2).bind fun r9 =>
(m_law_next (4 : Int) r9.2).bind fun r10 =>
(Out.get (pix [(0 : Int), (0 : Int), (1 : Int), (2 : Int)] r10.1)).bind fun x11 =>
(Out.guard ((s4.1).length < LIM)).bind fun _ =>
(Out.ok (dput s4.1 x6 (r9.1, x11))).bind fun found13 =>
Out.ok (found13, r10.2)) (pcut [z_ash, z_bay, z_elm, z_fir, z_oak, z_yew] none (some ((1 : Int) + r7.1))) (found3, r7.2)).bind fun s5 =>
Out.ok (s5.1, s5.2)
def m_law_rack (drawn_here1 : List (S × (List Int × Int))) : Out (Rak) :=
(Out.compS (fun (s4 : Unit) (x2 : S) =>
(Out.get (dget drawn_here1 x2)).bind fun x6 =>
(Out.get (dget drawn_here1 x2)).bind fun x7 =>
((mk_Ruler x6.1 x7.2).nox).bind fun r8 =>
Out.ok (some (x2, r8), ())) (drawn_here1.map (·.1)) [] ()).bind fun l5 =>
(mk_Rack (dmk l5.1)).bind fun r9 =>
Out.ok r9
def m_law_read (marks_here1 : List Int) (end2 : Int) : Out ((Int × Bool)) :=
(Out.guard (RG ((marks_here1).length : Int))).bind fun _ =>
(Out.guard ((rgI 0 ((marks_here1).length : Int)).length ≤ LIM)).bind fun _ =>
(Out.compS (fun (s6 : Unit) (x3 : Int) =>
(Out.get (pix marks_here1 x3)).bind fun x8 =>
if (decide (x8 ≤ end2)) = true then (Out.ok (some x3, ())) else Out.ok (none, ())) (rgI 0 ((marks_here1).length : Int)) [] ()).bind fun l7 =>
(if (!decide (l7.1 = ([] : List Int))) = true then ((Out.get (pix l7.1 (-(1 : Int)))).bind fun x10 =>
(Out.get (pix l7.1 (-(1 : Int)))).bind fun x11 =>
(Out.get (pix marks_here1 x11)).bind fun x12 =>
Out.ok (x10, decide (x12 = end2))) else (Out.ok ((0 : Int) - (1 : Int), false))).bind fun i9 =>
Out.ok i9
def m_law_results (drawn_here1 : List (S × (List Int × Int))) (measuring_here2 : (S × Bool × Int)) (size3 : Int) : Out (List ((Int × Bool))) :=
(Out.ok measuring_here2.1).bind fun name4 =>
(Out.ok measuring_here2.2.1).bind fun turned5 =>
(Out.ok measuring_here2.2.2).bind fun offset6 =>
(Out.get (dget drawn_here1 name4)).bind fun x7 =>
(Out.ok x7.1).bind fun marks_here8 =>
(Out.ok x7.2).bind fun error9 =>
(if turned5 = true then ((Out.compS (fun (s13 : Unit) (x11 : Int) =>
(Out.get (pix marks_here8 (-(1 : Int)))).bind fun x15 =>
Out.ok (some (x15 - x11), ())) marks_here8 [] ()).bind fun l14 =>
Out.ok (isort l14.1)) else (Out.ok marks_here8)).bind fun i10 =>
(Out.guard (RG ((0 : Int) - error9))).bind fun _ =>
(Out.guard (RG (error9 + (1 : Int)))).bind fun _ =>
(Out.guard ((rgI ((0 : Int) - error9) (error9 + (1 : Int))).length ≤ LIM)).bind fun _ =>
(Out.compS (fun (s20 : Unit) (x16 : Int) =>
((m_law_read i10 ((size3 - offset6) + x16)).nox).bind fun r22 =>
Out.ok (some r22, ())) (rgI ((0 : Int) - error9) (error9 + (1 : Int))) [] ()).bind fun l21 =>
(Out.guard ((ddup l21.1).length ≤ 18)).bind fun _ =>
Out.ok (uIB l21.1)
def m_law_measuring (drawn_here1 : List (S × (List Int × Int))) (bx : Bh) : Out ((S × Bool × Int) × Bh) :=
(Out.ok (drawn_here1.map (·.1))).bind fun names2 =>
(m_law_next ((names2).length : Int) bx).bind fun r3 =>
(Out.get (pix names2 r3.1)).bind fun x4 =>
(m_law_next (2 : Int) r3.2).bind fun r5 =>
(m_law_next (2 : Int) r5.2).bind fun r6 =>
(Out.get (pix [(1 : Int), (30 : Int)] r6.1)).bind fun x7 =>
(m_law_next x7 r6.2).bind fun r8 =>
Out.ok ((x4, decide (r5.1 = (0 : Int)), r8.1), r8.2)
def m_law_sizes (most1 : Int) (bx : Bh) : Out (List Int × Bh) :=
(m_law_next (20 : Int) bx).bind fun r2 =>
(Out.ok ((1 : Int) + r2.1)).bind fun begin3 =>
(Out.guard (RG begin3)).bind fun _ =>
(Out.guard (RG (begin3 + ((2 : Int) * most1)))).bind fun _ =>
(Out.guard ((rgI begin3 (begin3 + ((2 : Int) * most1))).length ≤ LIM)).bind fun _ =>
(Out.compS (fun (s8 : Bh) (x4 : Int) =>
((m_law_next (2 : Int) s8).nox).bind fun r10 =>
if (decide (r10.1 = (0 : Int))) = true then (Out.ok (some x4, r10.2)) else Out.ok (none, r10.2)) (rgI begin3 (begin3 + ((2 : Int) * most1))) [] r2.2).bind fun l9 =>
Out.ok (pcut l9.1 none (some most1), l9.2)
def m_law_parts (drawn_here1 : List (S × (List Int × Int))) (sizes_here2 : List Int) (measuring_here3 : (S × Bool × Int)) : Out (List ((Int × Bool) × List Int)) :=
(Out.ok ([] : List ((Int × Bool) × List Int))).bind fun found4 =>
(Out.fold (σ := List ((Int × Bool) × List Int)) (fun s5 (x7 : Int) =>
(m_law_results drawn_here1 measuring_here3 x7).bind fun r12 =>
(Out.fold (σ := List ((Int × Bool) × List Int)) (fun s9 (x11 : (Int × Bool)) =>
(Out.guard (((dget s9 x11).getD ([] : List Int)).length + ([x7]).length ≤ LIM)).bind fun _ =>
(Out.guard ((s9).length < LIM)).bind fun _ =>
(Out.ok (dput s9 x11 (((dget s9 x11).getD ([] : List Int)) ++ [x7]))).bind fun found16 =>
Out.ok found16) r12 s5).bind fun s10 =>
Out.ok s10) sizes_here2 found4).bind fun s6 =>
Out.ok s6
def m_law_least : Nat → (List (S × (List Int × Int))) → (List Int) → (List ((S × Bool × Int))) → Out (Int)
| 0, _, _, _ => Out.no
| n + 1, drawn_here1, sizes_here2, measurings3 =>
if (decide (((sizes_here2).length : Int) < (2 : Int))) = true then (
Out.ok (0 : Int))
else (
(Out.ok (99 : Int)).bind fun best4 =>
(Out.guard (RG ((measurings3).length : Int))).bind fun _ =>
(Out.fold (σ := Int) (fun s5 (x7 : Int) =>
(Out.get (pix measurings3 x7)).bind fun x9 =>
(m_law_parts drawn_here1 sizes_here2 x9).bind fun r10 =>
(if ((!memB sizes_here2 (r10.map (·.2))) || (decide ((1 : Int) < ((measurings3).length : Int)))) = true then (
(Out.guard ((pcut measurings3 none (some x7)).length + (pcut measurings3 (some (x7 + (1 : Int))) none).length ≤ LIM)).bind fun _ =>
(Out.ok ((pcut measurings3 none (some x7)) ++ (pcut measurings3 (some (x7 + (1 : Int))) none))).bind fun rest13 =>
(Out.compS (fun (s16 : Unit) (x14 : (Int × Bool)) =>
(Out.get (dget r10 x14)).bind fun x18 =>
((m_law_least n drawn_here1 x18 rest13).nox).bind fun r19 =>
Out.ok (some r19, ())) (r10.map (·.1)) [] ()).bind fun l17 =>
(Out.get (maxI l17.1)).bind fun x20 =>
(Out.ok (if ((1 : Int) + x20) < s5 then (1 : Int) + x20 else s5)).bind fun best21 =>
Out.ok best21)
else (
Out.ok s5) : Out (Int)).bind fun s11 =>
Out.ok s11) (rgI 0 ((measurings3).length : Int)) best4).bind fun s6 =>
Out.ok s6)
def m_law (script1 : List Int) : Out (Bool) :=
(Out.guard ((script1).length ≤ 63)).bind fun _ =>
(Out.loop (σ := Bh) (ρ := (Bool × Bh)) (fun s3 (x5 : Int) =>
(m_law_drawn (3 : Int) (6 : Int) s3).bind fun r6 =>
(m_law_rack r6.1).bind fun r7 =>
(m_law_sizes (6 : Int) r6.2).bind fun r8 =>
(Out.ok r7).bind fun rack_here9 =>
(Out.ok r8.1).bind fun sizes_here10 =>
(m_law_next (5 : Int) r8.2).bind fun r12 =>
(Out.guard (RG r12.1)).bind fun _ =>
(Out.guard ((rgI 0 r12.1).length ≤ LIM)).bind fun _ =>
(Out.compS (fun (s15 : Bh) (x11 : Int) =>
((m_law_measuring r6.1 s15).nox).bind fun r17 =>
Out.ok (some r17.1, r17.2)) (rgI 0 r12.1) [] r12.2).bind fun l16 =>
(Out.ok ([] : List Int)).bind fun worst18 =>
(Out.fold (σ := List Int) (fun s19 (x21 : (S × Bool × Int)) =>
(m_law_parts r6.1 sizes_here10 x21).bind fun r23 =>
(Out.compS (fun (s27 : Unit) (x25 : (Int × Bool)) =>
(Out.get (dget r23 x25)).bind fun x29 =>
Out.ok (some ((x29).length : Int), ())) (r23.map (·.1)) [] ()).bind fun l28 =>
(Out.guard (([(0 : Int)]).length + (l28.1).length ≤ LIM)).bind fun _ =>
(Out.get (maxI ([(0 : Int)] ++ l28.1))).bind fun x31 =>
(Out.guard ((s19).length < LIM)).bind fun _ =>
(Out.ok (s19 ++ [x31])).bind fun worst33 =>
Out.ok worst33) l16.1 worst18).bind fun s20 =>
(if ((!decide (s20 = ([] : List Int))) && (!decide (sizes_here10 = ([] : List Int)))) = true then ((Out.get (minI s20)).bind fun x35 =>
(Out.get (idxI x35 s20)).bind fun x36 =>
Out.ok (some (x36 : Int))) else (Out.ok none)).bind fun i34 =>
(m_next_measuring rack_here9 sizes_here10 l16.1).bind fun r37 =>
(Out.guard (r37 = i34 ∧ alB 0 ((eO eI) r37) = true)).bind fun _ =>
if (!true) = true then (
Out.ok (.rt (false, l16.2)))
else (
(m_law_least 6 r6.1 sizes_here10 l16.1).bind fun r39 =>
(m_fewest_measurings rack_here9 sizes_here10 l16.1).bind fun r40 =>
(Out.guard (r40 = (if (decide (r39 < (99 : Int))) = true then some r39 else none) ∧ alB 0 ((eO eI) r40) = true)).bind fun _ =>
if (!true) = true then (
Out.ok (.rt (false, l16.2)))
else (
Out.ok (.nx l16.2)))) (rgI 0 (3 : Int)) (mixT m_law_mix script1 (32 : Int))).bind fun t => match t with
| .nx s4 => (
Out.ok true)
| .rt v => Out.ok v.1
structure RulOk (r : Rul) : Prop where
  lt : r.marks.Pairwise (· < ·)
  hd : r.marks[0]? = some 0
  lo : 2 ≤ r.marks.length
  hi : r.marks.length ≤ 12
  le : ∀ m, m ∈ r.marks → m ≤ 300
  e0 : 0 ≤ r.error
  e9 : r.error ≤ 9
theorem isnum_iff {v a b : Int} : m_is_number v a b = true ↔ a ≤ v ∧ v ≤ b := by unfold m_is_number; simp
theorem isnum_t {v a b : Int} (h1 : a ≤ v) (h2 : v ≤ b) : m_is_number v a b = true := isnum_iff.mpr ⟨h1, h2⟩
theorem pairwise_get {xs : List Int} (h : xs.Pairwise (· < ·)) {i j : Nat} {x y : Int} (hx : xs[i]? = some x) (hy : xs[j]? = some y) (hij : i < j) : x < y := by
  obtain ⟨h1, rfl⟩ := List.getElem?_eq_some_iff.mp hx
  obtain ⟨h2, rfl⟩ := List.getElem?_eq_some_iff.mp hy
  exact List.pairwise_iff_getElem.mp h i j h1 h2 hij
theorem mk_Ruler_ok {ms : List Int} {e : Int} (h : RulOk ⟨e, ms⟩) : mk_Ruler ms e = .ok ⟨e, ms⟩ := by
  apply Out.yes.eq
  unfold mk_Ruler
  have hlo := h.lo
  have hhi := h.hi
  have he0 := h.e0
  have he9 := h.e9
  dsimp only at hlo hhi he0 he9
  refine Out.yes_bind (R := fun _ => True) (Out.fold_yes (fun _ _ => True) _ _ trivial fun pre x post s hp _ => ?_) fun _ _ => ?_
  · obtain ⟨i, hi, h1, h2, _⟩ := penum_split hp
    have hlt := (List.getElem?_eq_some_iff.mp h2).1
    rcases Nat.eq_zero_or_pos i with z | z
    · subst z
      have hx0 : x.2 = 0 := by have := h.hd; dsimp only at this; rw [h2] at this; exact Option.some.inj this
      rw [if_pos (by rw [h1]; simp), Out.bind_ok]
      refine Out.yes_ifF ?_ (Out.yes_ok trivial)
      rw [h1, hx0]; rfl
    · rw [if_neg (by rw [h1]; simp; omega)]
      have hprev : ms[i - 1]? = some (ms[i - 1]'(by omega)) := List.getElem?_eq_getElem (by omega)
      rw [Out.bind_get (a := ms[i - 1]'(by omega)) (by rw [h1, show ((i : Nat) : Int) - 1 = ((i - 1 : Nat) : Int) by omega]; exact pix_nat hprev), Out.bind_ok]
      refine Out.yes_ifF ?_ (Out.yes_ok trivial)
      have hl := pairwise_get h.lt hprev h2 (by omega)
      have h3 := h.le x.2 (List.mem_of_getElem? h2)
      rw [if_neg (by rw [h1]; simp; omega), isnum_t (by omega) h3]
      simp; omega
  · refine Out.yes_ifF (by simp; omega) (Out.yes_ifF ?_ (Out.yes_ok rfl))
    rw [isnum_t he0 he9]; rfl
structure RakOk (r : Rak) : Prop where
  ru : ∀ p, p ∈ r.held → RulOk p.2
  nd : (keys r.held).Nodup
  ne : r.held ≠ []
  le : r.held.length ≤ 6
  so : (keys r.held).Pairwise fun a b => leS a b = true
/-- a rack out of a dict of rulers -/
theorem mk_Rack_ok {rs : List (S × Rul)} (hn : ∀ p, p ∈ rs → m_is_name p.1 = .ok true) (nd : (keys rs).Nodup) (ne : rs ≠ []) (le : rs.length ≤ 6) (ru : ∀ p, p ∈ rs → RulOk p.2) :
    (mk_Rack rs).yes fun r => RakOk r ∧ keys r.held = ssort (keys rs) ∧ (∀ p, p ∈ r.held ↔ p ∈ rs) ∧ r.held.length = rs.length := by
  unfold mk_Rack
  refine Out.yes_bind (R := fun _ => True) (Out.fold_yes (fun _ _ => True) _ _ trivial fun pre x post s hp _ => ?_) fun _ _ => ?_
  · obtain ⟨i, hi, h1, h2, _⟩ := penum_split hp
    have hlt := (List.getElem?_eq_some_iff.mp h2).1
    rw [List.length_map] at hlt
    have hx := List.mem_of_getElem? h2
    rw [List.mem_map] at hx
    obtain ⟨p, hp1, hp2⟩ := hx
    rw [if_neg (by rw [h1]; simp; omega), ← hp2, hn p hp1, Out.bind_ok, Out.bind_ok]
    exact Out.yes_ifF rfl (Out.yes_ok trivial)
  · refine Out.yes_ifF (by cases rs with | nil => exact absurd rfl ne | cons a b => rfl) (Out.yes_guard (by omega) ?_)
    have hperm : (ssort (keys rs)).Perm (keys rs) := ssort_perm _
    let val : S → Rul := fun k => (dget rs k).getD ⟨0, []⟩
    rw [Out.compS_unit (o := fun k => some (k, val k)) _ _ fun k hk => by
      obtain ⟨v, hv⟩ := dget_some (hperm.mem_iff.mp hk)
      rw [Out.bind_get hv]
      show _ = Out.ok (some (k, (dget rs k).getD ⟨0, []⟩), ())
      rw [hv]; rfl]
    rw [Out.bind_ok, List.nil_append]
    have hfm : (ssort (keys rs)).filterMap (fun k => some (k, val k)) = (ssort (keys rs)).map fun k => (k, val k) := by rw [← List.filterMap_eq_map]; rfl
    have hk : keys ((ssort (keys rs)).map fun k => (k, val k)) = ssort (keys rs) := by
      unfold keys; rw [List.map_map]; exact List.map_id _
    have hnd : (keys ((ssort (keys rs)).map fun k => (k, val k))).Nodup := by rw [hk]; exact hperm.nodup_iff.mpr nd
    dsimp only
    rw [hfm, dmk_of_nodup hnd]
    have hmem : ∀ p, p ∈ ((ssort (keys rs)).map fun k => (k, val k)) ↔ p ∈ rs := by
      intro p
      rw [List.mem_map]
      constructor
      · rintro ⟨k, hk1, rfl⟩
        obtain ⟨v, hv⟩ := dget_some (hperm.mem_iff.mp hk1)
        show (k, (dget rs k).getD ⟨0, []⟩) ∈ rs
        rw [hv]; exact dget_mem hv
      · intro hp
        refine ⟨p.1, hperm.mem_iff.mpr (List.mem_map.mpr ⟨p, hp, rfl⟩), ?_⟩
        show (p.1, (dget rs p.1).getD ⟨0, []⟩) = p
        rw [dget_of_mem nd (show (p.1, p.2) ∈ rs from hp)]; rfl
    have hlen : ((ssort (keys rs)).map fun k => (k, val k)).length = rs.length := by
      rw [List.length_map, hperm.length_eq]; unfold keys; rw [List.length_map]
    refine Out.yes_ok ⟨⟨fun p hp => ru p ((hmem p).mp hp), hnd, ?_, by rw [hlen]; exact le, by dsimp only; rw [hk]; exact ssort_sorted _⟩, hk, hmem, hlen⟩
    intro z
    dsimp only at z
    rw [z] at hlen
    cases rs with
    | nil => exact ne rfl
    | cons a b => simp at hlen
theorem item_ok {r : Rak} {n : S} {u : Rul} (h : dget r.held n = some u) : m_Rack___getitem r n = .ok u := by
  unfold m_Rack___getitem
  have : n ∈ keys r.held := by apply Classical.byContradiction; intro z; rw [dget_none.mpr z] at h; cases h
  rw [dhas_iff.mpr this, if_neg (by simp), Out.bind_get h]
theorem ixN_pos {n : Nat} {i : Int} (h0 : 0 ≤ i) (h1 : i < (n : Int)) : L2.ixN n i = some i.toNat := by
  unfold L2.ixN
  rw [if_pos h0, if_pos (by omega)]
theorem next_yes {m : Int} (h0 : 0 < m) (h1 : m < 2 ^ 200) (bx : Bh) : (m_law_next m bx).yes fun r => 0 ≤ r.1 ∧ r.1 < m := by
  obtain ⟨⟨ns, st, ix⟩, hl⟩ := bx
  unfold m_law_next
  dsimp only at hl ⊢
  refine Out.yes_guard ⟨h0, h1⟩ ?_
  have hr : ∀ a : Int, 0 ≤ a % m ∧ a % m < m := fun a => ⟨Int.emod_nonneg _ (by omega), Int.emod_lt_of_pos _ h0⟩
  by_cases hn : ns.length ≤ 1
  · rw [if_neg (by omega)]
    obtain ⟨x, hx, hm⟩ := pix_some (xs := ns ++ [0]) (i := ix % 1) (by omega) (by rw [List.length_append, List.length_singleton]; omega)
    refine Out.yes_get hx ?_
    by_cases hc : 1000000000000000000 ≤ x
    · rw [if_pos hc]
      have h1 : ns.length = 1 := by
        rcases Nat.eq_zero_or_pos ns.length with z | z
        · have : ns = [] := List.eq_nil_of_length_eq_zero z
          subst this
          simp at hm; omega
        · omega
      rw [h1]
      refine Out.yes_get (ixN_pos (n := 1) (by omega) (by omega)) (Out.yes_guard (by omega) (Out.yes_ok (hr _)))
    · rw [if_neg hc]; exact Out.yes_ok (hr _)
  · have hp : (0 : Int) < ns.length := by omega
    rw [if_pos (by omega)]
    have i0 := Int.emod_nonneg ix (show (ns.length : Int) ≠ 0 by omega)
    have i1 := Int.emod_lt_of_pos ix hp
    obtain ⟨x, hx, hm⟩ := pix_some (xs := ns ++ [0]) i0 (by rw [List.length_append]; simp; omega)
    refine Out.yes_get hx ?_
    by_cases hc : 1000000000000000000 ≤ x
    · rw [if_pos hc]
      exact Out.yes_get (ixN_pos i0 i1) (Out.yes_guard hp (Out.yes_ok (hr _)))
    · rw [if_neg hc]; exact Out.yes_ok (hr _)
/-- marks that grow -/
structure Grown (n : Int) (wide : Int) (ms : List Int) : Prop where
  lt : ms.Pairwise (· < ·)
  hd : ms[0]? = some 0
  len : (ms.length : Int) = n + 1
  le : ∀ m, m ∈ ms → m ≤ n * wide
theorem grow_yes {n wide : Int} (hn : 0 ≤ n) (hn2 : n ≤ 1000) (h1 : 1 ≤ wide) (h2 : wide < 2 ^ 200) (bx : Bh) : (Out.fold (σ := (List Int) × Bh) (fun s3 (x5 : Int) =>
    (Out.get (pix s3.1 (-(1 : Int)))).bind fun x9 =>
    (m_law_next wide s3.2).bind fun r10 =>
    (Out.guard ((s3.1).length < LIM)).bind fun _ =>
    (Out.ok (s3.1 ++ [(x9 + (1 : Int)) + r10.1])).bind fun found12 =>
    Out.ok (found12, r10.2)) (rgI 0 n) ([(0 : Int)], bx)).yes fun s => Grown n wide s.1 := by
  refine Out.yes.mono (Out.fold_yes (fun (pre : List Int) (s : List Int × Bh) => ∃ z, s.1.getLast? = some z ∧ z ≤ (pre.length : Int) * wide ∧ s.1.Pairwise (· < ·) ∧ s.1[0]? = some 0 ∧ s.1.length = pre.length + 1 ∧ ∀ m, m ∈ s.1 → m ≤ z) _ _ ⟨0, rfl, by simp, by simp, rfl, rfl, fun m hm => by simp at hm; omega⟩ fun pre x post s hp hI => ?_) fun s hI => ?_
  · obtain ⟨z, z1, z2, z3, z4, z5, z6⟩ := hI
    have hpl : pre.length < 1000 := by
      have := congrArg List.length hp
      rw [rgI_length, List.length_append, List.length_cons] at this
      omega
    refine Out.yes_get (pix_last z1) (Out.yes_bind (next_yes (by omega) h2 _) fun r hr => Out.yes_guard (by show _ < 16777216; omega) (Out.yes_let (Out.yes_ok ⟨z + 1 + r.1, by simp, ?_, ?_, ?_, by simp [z5], ?_⟩)))
    · rw [List.length_append, List.length_singleton, show ((pre.length + 1 : Nat) : Int) = (pre.length : Int) + 1 by omega, Int.add_mul]; omega
    · rw [List.pairwise_append]
      refine ⟨z3, by simp, fun a ha b hb => ?_⟩
      rw [List.mem_singleton] at hb
      have := z6 a ha
      omega
    · rw [List.getElem?_append_left (by omega)]; exact z4
    · intro m hm
      rcases List.mem_append.mp hm with hm | hm
      · have := z6 m hm; omega
      · rw [List.mem_singleton] at hm; omega
  · obtain ⟨z, z1, z2, z3, z4, z5, z6⟩ := hI
    have hl : ((rgI 0 n).length : Int) = n := by rw [rgI_length]; omega
    exact ⟨z3, z4, by rw [z5]; omega, fun m hm => by have := z6 m hm; rw [hl] at z2; omega⟩
theorem Grown.ok {n wide e : Int} {ms : List Int} (h : Grown n wide ms) (h1 : 1 ≤ n) (h2 : n ≤ 11) (h3 : n * wide ≤ 300) (e0 : 0 ≤ e) (e9 : e ≤ 9) : RulOk ⟨e, ms⟩ :=
  ⟨h.lt, h.hd, by have := h.len; show 2 ≤ ms.length; omega, by have := h.len; show ms.length ≤ 12; omega, fun m hm => by have := h.le m hm; omega, e0, e9⟩
theorem nodup_of_keys {ν : Type} {l : List (S × ν)} (h : (keys l).Nodup) : l.Nodup := by
  unfold keys at h
  exact List.Pairwise.imp (fun {a b} hab e => hab (by rw [e])) (List.pairwise_map.mp h)
def rulOf (v : List Int × Int) : Rul := ⟨v.2, v.1⟩
structure DrOk (d : List (S × (List Int × Int))) : Prop where
  nd : (keys d).Nodup
  ne : d ≠ []
  le : d.length ≤ 6
  nm : ∀ p, p ∈ d → m_is_name p.1 = .ok true
  ru : ∀ p, p ∈ d → RulOk (rulOf p.2)
def heldOf (d : List (S × (List Int × Int))) : List (S × Rul) := d.map fun q => (q.1, rulOf q.2)
theorem keys_heldOf (d : List (S × (List Int × Int))) : keys (heldOf d) = keys d := by unfold keys heldOf; rw [List.map_map]; rfl
theorem rack2_yes {d : List (S × (List Int × Int))} (h : DrOk d) : (m_law_rack d).yes fun r => RakOk r ∧ r.held.Perm (heldOf d) := by
  unfold m_law_rack
  rw [Out.compS_unit (o := fun x => (dget d x).map fun v => (x, rulOf v)) _ _ fun x hx => by
    have hx' : x ∈ keys d := hx
    obtain ⟨v, hv⟩ := dget_some hx'
    have hm := dget_mem hv
    rw [Out.bind_get hv, Out.bind_get hv, mk_Ruler_ok (h.ru _ hm), Out.nox_ok, Out.bind_ok, hv]
    rfl]
  rw [Out.bind_ok, List.nil_append]
  have e : (d.map (·.1)).filterMap (fun x => (dget d x).map fun v => (x, rulOf v)) = heldOf d := by
    rw [List.filterMap_map]
    unfold heldOf
    rw [← List.filterMap_eq_map]
    have : ∀ l : List (S × (List Int × Int)), (∀ q, q ∈ l → q ∈ d) → l.filterMap ((fun x => (dget d x).map fun v => (x, rulOf v)) ∘ fun x => x.1) = l.filterMap fun q => some (q.1, rulOf q.2) := by
      intro l
      induction l with
      | nil => intro _; rfl
      | cons q l ih =>
        intro hl
        have e1 : ((fun x => (dget d x).map fun v => (x, rulOf v)) ∘ fun x : S × (List Int × Int) => x.1) q = some (q.1, rulOf q.2) := by
          show (dget d q.1).map _ = _
          rw [dget_of_mem h.nd (show (q.1, q.2) ∈ d from hl q List.mem_cons_self)]
          rfl
        rw [List.filterMap_cons_some e1, ih fun q hq => hl q (List.mem_cons_of_mem _ hq)]
        rfl
    exact this d fun q hq => hq
  dsimp only
  rw [e]
  have hnd : (keys (heldOf d)).Nodup := by rw [keys_heldOf]; exact h.nd
  rw [dmk_of_nodup hnd]
  have hmem : ∀ p, p ∈ heldOf d → ∃ q, q ∈ d ∧ p = (q.1, rulOf q.2) := fun p hp => by
    unfold heldOf at hp
    obtain ⟨q, h1, h2⟩ := List.mem_map.mp hp
    exact ⟨q, h1, h2.symm⟩
  refine Out.yes_bind (mk_Rack_ok (fun p hp => by obtain ⟨q, h1, rfl⟩ := hmem p hp; exact h.nm q h1) hnd (by unfold heldOf; intro z; exact h.ne (List.map_eq_nil_iff.mp z)) (by unfold heldOf; rw [List.length_map]; exact h.le) fun p hp => by obtain ⟨q, h1, rfl⟩ := hmem p hp; exact h.ru q h1) fun r ⟨k1, k2, k3, k4⟩ => Out.yes_ok ⟨k1, ?_⟩
  exact (List.perm_ext_iff_of_nodup (nodup_of_keys k1.nd) (nodup_of_keys hnd)).mpr k3
theorem marks2_yes {most wide : Int} (h1 : 2 ≤ most) (h2 : most ≤ 12) (h3 : 1 ≤ wide) (h4 : wide ≤ 300) (bx : Bh) : (m_law_marks most wide bx).yes fun r => ∃ n, 1 ≤ n ∧ n ≤ most - 1 ∧ Grown n wide r.1 := by
  unfold m_law_marks
  refine Out.yes_let (Out.yes_bind (next_yes (by omega) (by omega) _) fun r7 h7 => Out.yes_guard (by constructor <;> omega) (Out.yes_bind (grow_yes (n := 1 + r7.1) (by omega) (by omega) h3 (by omega) _) fun s hs => Out.yes_ok ⟨1 + r7.1, by omega, by omega, hs⟩))
def names6 : List S := [z_ash, z_bay, z_elm, z_fir, z_oak, z_yew]
theorem names6_ok : ∀ n, n ∈ names6 → m_is_name n = .ok true := by
  intro n hn
  unfold names6 at hn
  simp only [List.mem_cons, List.not_mem_nil, or_false] at hn
  rcases hn with rfl | rfl | rfl | rfl | rfl | rfl <;> with_unfolding_all rfl
theorem names6_nd : names6.Nodup := by decide +kernel
theorem names6_lt : names6.Pairwise (fun a b => ltC eZ a b = true) := by decide +kernel
theorem drawn2E_yes {most wide : Int} (h1 : 1 ≤ most) (h2 : most ≤ 6) (h3 : 1 ≤ wide) (h4 : wide ≤ 100) (bx : Bh) : (m_law_drawn most wide bx).yes fun r => (DrOk r.1 ∧ (keys r.1).Pairwise (fun a b => ltC eZ a b = true) ∧ ∀ n, n ∈ keys r.1 → n ∈ names6) ∧ (∃ k : Nat, 1 ≤ k ∧ (k : Int) ≤ most ∧ keys r.1 = names6.take k) ∧ ∀ p, p ∈ r.1 → p.2.2 ≤ 2 ∧ p.2.1.length ≤ 4 := by
  unfold m_law_drawn
  refine Out.yes_let (Out.yes_bind (next_yes (by omega) (by omega) _) fun r7 h7 => ?_)
  obtain ⟨k, hk⟩ := Int.eq_ofNat_of_zero_le (show 0 ≤ 1 + r7.1 by omega)
  rw [hk]
  have hcut : pcut [z_ash, z_bay, z_elm, z_fir, z_oak, z_yew] none (some (k : Int)) = names6.take k := pcut_to _ _
  have hkl : 1 ≤ k ∧ k ≤ 6 := by omega
  rw [hcut]
  refine Out.yes_bind (Out.fold_yes (fun (pre : List S) (s : List (S × (List Int × Int)) × Bh) => keys s.1 = pre ∧ ∀ p, p ∈ s.1 → RulOk (rulOf p.2) ∧ p.2.2 ≤ 2 ∧ p.2.1.length ≤ 4) _ _ ⟨rfl, fun p hp => by cases hp⟩ fun pre x post s hp hI => ?_) fun s hs => ?_
  · obtain ⟨i1, i2⟩ := hI
    refine Out.yes_bind (marks2_yes (by omega) (by omega) h3 (by omega) _) fun r9 ⟨n, n1, n2, hg⟩ => ?_
    refine Out.yes_bind (next_yes (by omega) (by omega) _) fun r10 h10 => ?_
    obtain ⟨er, he, hem⟩ := pix_some (xs := [(0 : Int), 0, 1, 2]) h10.1 (by simp; omega)
    have her : 0 ≤ er ∧ er ≤ 2 := by simp at hem; omega
    have hnd : (pre ++ x :: post).Nodup := by rw [← hp]; exact (List.take_sublist _ _).nodup names6_nd
    have hx : x ∉ pre := fun z => by
      rw [List.nodup_append] at hnd
      exact hnd.2.2 x z x List.mem_cons_self rfl
    have hlen : s.1.length < 16777216 := by
      have := congrArg List.length i1
      unfold keys at this
      rw [List.length_map] at this
      have h6 := congrArg List.length hp
      rw [List.length_take, List.length_append] at h6
      have : names6.length = 6 := rfl
      omega
    refine Out.yes_get he (Out.yes_guard hlen (Out.yes_let (Out.yes_ok ⟨?_, fun p hp => ?_⟩)))
    · rw [keys_dput, if_neg (by rw [i1]; exact hx), i1]
    · have hg2 := dget_of_mem (dput_nodup (k := x) (v := (r9.1, er)) (by rw [i1]; rw [List.nodup_append] at hnd; exact hnd.1)) (show (p.1, p.2) ∈ dput s.1 x (r9.1, er) from hp)
      rw [dget_dput] at hg2
      by_cases e : p.1 = x
      · rw [if_pos e] at hg2
        rw [← Option.some.inj hg2]
        have h5 : n * wide ≤ 3 * 100 := Int.mul_le_mul (by omega) h4 (by omega) (by omega)
        exact ⟨hg.ok n1 (by omega) (by omega) her.1 (by omega), her.2, by have := hg.len; dsimp only; omega⟩
      · rw [if_neg e] at hg2
        exact i2 p (dget_mem hg2)
  · obtain ⟨i1, i2⟩ := hs
    have hl : s.1.length = k := by
      have := congrArg List.length i1
      unfold keys at this
      rw [List.length_map, List.length_take] at this
      have h6 : names6.length = 6 := rfl
      omega
    exact Out.yes_ok ⟨⟨⟨by rw [i1]; exact (List.take_sublist _ _).nodup names6_nd, (fun z => by dsimp only at z; rw [z] at hl; simp at hl; omega), by dsimp only; omega, (fun p hp => names6_ok _ (by have : p.1 ∈ keys s.1 := List.mem_map.mpr ⟨p, hp, rfl⟩; rw [i1] at this; exact List.mem_of_mem_take this)), fun p hp => (i2 p hp).1⟩, by rw [i1]; exact List.Pairwise.sublist (List.take_sublist _ _) names6_lt, fun n hn => by rw [i1] at hn; exact List.mem_of_mem_take hn⟩, ⟨k, hkl.1, by omega, i1⟩, fun p hp => (i2 p hp).2⟩
def readN (ms : List Int) (l : Int) : Nat := (ms.filter fun x => decide (x ≤ l)).length
def readL (ms : List Int) (l : Int) : Int × Bool := ((readN ms l : Int) - 1, decide (1 ≤ readN ms l ∧ ms[readN ms l - 1]? = some l))
theorem readN_le (ms : List Int) (l : Int) : readN ms l ≤ ms.length := List.length_filter_le _ _
/-- the exact part, as both sides write it -/
theorem read_ex {ms : List Int} {l : Int} {f : Int → Bool} (hf : ∀ x, f x = decide (x = l)) : (if (decide ((0 : Int) ≤ (readN ms l : Int) - 1)) = true then ((Out.get (pix ms ((readN ms l : Int) - 1))).bind fun x => Out.ok (f x)) else Out.ok false) = .ok (readL ms l).2 := by
  have hle := readN_le ms l
  by_cases h : 1 ≤ readN ms l
  · rw [if_pos (by simp; omega)]
    have hlt : readN ms l - 1 < ms.length := by omega
    have e : pix ms ((readN ms l : Int) - 1) = some ms[readN ms l - 1] := by
      have := pix_nat (xs := ms) (i := readN ms l - 1) (List.getElem?_eq_getElem hlt)
      rwa [show ((readN ms l - 1 : Nat) : Int) = (readN ms l : Int) - 1 by omega] at this
    rw [Out.bind_get e, hf]
    unfold readL
    rw [List.getElem?_eq_getElem hlt]
    congr 1
    simp [h]
  · rw [if_neg (by simp; omega)]
    unfold readL
    congr 1
    simp [h]
theorem read_ok (ms : List Int) (l : Int) : m_read_at ms l = .ok (readL ms l) := by
  unfold m_read_at
  rw [Out.bind_ok, List.map_id']
  rw [show ((ms.filter fun x => decide (x ≤ l)).length : Int) = (readN ms l : Int) from rfl, read_ex (f := fun x => decide (x = l)) (fun _ => rfl), Out.bind_ok]
  rfl
def mirL (ms : List Int) : List Int := ms.reverse.map fun x => (ms.getLast?.getD 0) - x
theorem mir_ok {ms : List Int} (h : ms ≠ []) : m_mirrored ms = .ok (mirL ms) := by
  unfold m_mirrored
  obtain ⟨x, hx⟩ : ∃ x, ms.getLast? = some x := ⟨_, List.getLast?_eq_some_getLast h⟩
  rw [Out.compS_unit (o := fun y => some (x - y)) _ _ (fun y _ => by rw [Out.bind_get (pix_last hx)]), Out.bind_ok, List.nil_append]
  unfold mirL
  rw [hx, ← List.filterMap_eq_map]; rfl
def resL (ms : List Int) (e l : Int) : List (Int × Bool) := dsort (eP eI eB) ((dmk ((rgI (0 - e) (e + 1)).map fun s => (readL ms (l + s), true))).map (·.1))
theorem mem_resL {ms : List Int} {e l : Int} {x : Int × Bool} : x ∈ resL ms e l ↔ ∃ s, 0 - e ≤ s ∧ s ≤ e ∧ x = readL ms (l + s) := by
  unfold resL
  rw [(dsort_perm _).mem_iff, mem_keys_dmk]
  unfold keys
  rw [List.map_map]
  constructor
  · intro h
    obtain ⟨s, hs, rfl⟩ := List.mem_map.mp h
    rw [mem_rgI] at hs
    exact ⟨s, hs.1, by omega, rfl⟩
  · rintro ⟨s, h1, h2, rfl⟩
    exact List.mem_map.mpr ⟨s, mem_rgI.mpr ⟨h1, by omega⟩, rfl⟩
theorem resL_len {ms : List Int} {e l : Int} (h0 : 0 ≤ e) : 1 ≤ (resL ms e l).length ∧ ((resL ms e l).length : Int) ≤ 2 * e + 1 := by
  constructor
  · exact List.length_pos_of_mem (mem_resL.mpr ⟨0, by omega, h0, rfl⟩)
  · unfold resL
    have h1 := (dsort_perm (en := eP eI eB) ((dmk ((rgI (0 - e) (e + 1)).map fun s => (readL ms (l + s), true))).map (·.1))).length_eq
    rw [h1, List.length_map]
    have h2 := dmk_len ((rgI (0 - e) (e + 1)).map fun s => (readL ms (l + s), true))
    rw [List.length_map, rgI_length] at h2
    omega
/-- all results of a measuring with a ruler -/
def measL (u : Rul) (t : Bool) (o l : Int) : List (Int × Bool) := resL (if t = true then mirL u.marks else u.marks) u.error (l - o)
theorem held_ok {r : Rak} (hR : RakOk r) {n : S} {u : Rul} (h : dget r.held n = some u) : RulOk u := hR.ru _ (dget_mem h)
theorem all_ok {r : Rak} (hR : RakOk r) {n : S} {u : Rul} (h : dget r.held n = some u) (t : Bool) (o l : Int) : m_all_results r (n, t, o) l = .ok (measL u t o l) := by
  have hu := held_ok hR h
  have h0 := hu.e0
  have h9 := hu.e9
  have hne : u.marks ≠ [] := fun z => by have := hu.lo; rw [z] at this; simp at this
  unfold m_all_results
  rw [Out.bind_ok, Out.bind_ok, Out.bind_ok, item_ok h, show (Out.ok u).nox = Out.ok u from rfl, Out.bind_ok]
  have e1 : (if t = true then ((m_mirrored (m_Ruler_marks u)).bind fun r10 => Out.ok r10) else (Out.ok (m_Ruler_marks u))) = .ok (if t = true then mirL u.marks else u.marks) := by
    cases t with
    | true => rw [if_pos rfl, if_pos rfl]; unfold m_Ruler_marks; rw [mir_ok hne, Out.bind_ok]
    | false => rw [if_neg Bool.false_ne_true, if_neg Bool.false_ne_true]; rfl
  dsimp only
  rw [e1, Out.bind_ok, Out.bind_ok]
  unfold m_Ruler_error
  rw [Out.bind_guard (by constructor <;> omega), Out.bind_guard (by constructor <;> omega), Out.bind_guard (by rw [rgI_length]; show _ ≤ 16777216; omega)]
  rw [Out.compS_unit (o := fun s => some (readL (if t = true then mirL u.marks else u.marks) (l - o + s), true)) _ _ (fun y _ => by rw [read_ok]; rfl), Out.bind_ok, Out.bind_ok, List.nil_append]
  unfold measL resL
  rw [← List.filterMap_eq_map (f := fun s => (readL (if t = true then mirL u.marks else u.marks) (l - o + s), true))]; rfl
theorem vlen_ok_t {ls : List Int} (h : ∀ l, l ∈ ls → 1 ≤ l ∧ l ≤ 300) : m_validate_lengths_of_things_t ls = .ok () := by
  unfold m_validate_lengths_of_things_t
  rw [List.map_id', List.filter_eq_nil_iff.mpr (fun l hl => by rw [isnum_t (h l hl).1 (h l hl).2]; simp), if_neg (by simp)]
/-- a measuring that can be -/
def MeasOk (r : Rak) (m : S × Bool × Int) : Prop := (∃ u, dget r.held m.1 = some u) ∧ 0 ≤ m.2.2 ∧ m.2.2 ≤ 200
theorem vmeas_ok {r : Rak} {ms : List (S × Bool × Int)} (h : ∀ m, m ∈ ms → MeasOk r m) : m_validate_measurings r ms = .ok () := by
  unfold m_validate_measurings
  apply Out.yes.eq
  refine Out.yes_bind (R := fun _ => True) (Out.yes.mono (Out.fold_yes (fun _ _ => True) _ _ trivial fun pre x post s hp _ => ?_) fun _ _ => trivial) fun _ _ => Out.yes_ok rfl
  obtain ⟨i, _, _, hx, _⟩ := penum_split hp
  obtain ⟨⟨u, hu⟩, o0, o1⟩ := h x.2 (List.mem_of_getElem? hx)
  refine Out.yes_ifF ?_ (Out.yes_ok trivial)
  unfold m_Rack___contains
  have hk : dhas r.held x.2.1 = true := dhas_iff.mpr (List.mem_map.mpr ⟨_, dget_mem hu, rfl⟩)
  rw [hk, isnum_t o0 o1]; rfl
theorem memB_iff {α : Type} [DecidableEq α] {x : α} {xs : List α} : memB x xs = true ↔ x ∈ xs := by unfold memB; exact decide_eq_true_iff
/-- can a length have a result -/
def hasR (r : Rak) (p : (S × Bool × Int) × (Int × Bool)) (l : Int) : Bool := match dget r.held p.1.1 with
  | some u => memB p.2 (measL u p.1.2.1 p.1.2.2 l)
  | none => false
theorem filterMap_if {α : Type} (p : α → Bool) (xs : List α) : xs.filterMap (fun x => if p x = true then some x else none) = xs.filter p := by
  rw [← List.filterMap_eq_filter]
  rfl
theorem readN_iff {l : Int} : ∀ {ms : List Int}, ms.Pairwise (· < ·) → ∀ {k : Nat} {x : Int}, ms[k]? = some x → (x ≤ l ↔ k < readN ms l)
  | [], _, k, x, e => by simp at e
  | y :: ms, h, k, x, e => by
    obtain ⟨h1, h2⟩ := List.pairwise_cons.mp h
    by_cases hy : y ≤ l
    · have en : readN (y :: ms) l = readN ms l + 1 := by unfold readN; rw [List.filter_cons_of_pos (by simpa using hy), List.length_cons]
      rw [en]
      cases k with
      | zero => rw [List.getElem?_cons_zero] at e; cases e; exact ⟨fun _ => by omega, fun _ => hy⟩
      | succ k =>
        rw [List.getElem?_cons_succ] at e
        rw [readN_iff h2 e]; omega
    · have en : readN (y :: ms) l = 0 := by
        unfold readN
        rw [List.filter_eq_nil_iff.mpr fun z hz => ?_, List.length_nil]
        rw [decide_eq_true_eq]
        rcases List.mem_cons.mp hz with q | q
        · rw [q]; exact hy
        · have := h1 z q; omega
      rw [en]
      refine ⟨fun q => ?_, fun q => absurd q (Nat.not_lt_zero _)⟩
      rcases List.mem_cons.mp (List.mem_of_getElem? e) with z | z
      · rw [z] at q; exact absurd q hy
      · have := h1 x z; omega
theorem law_read_ok {ms : List Int} (h : ms.Pairwise (· < ·)) (hl : ms.length ≤ 1000) (l : Int) : m_law_read ms l = .ok (readL ms l) := by
  unfold m_law_read
  rw [Out.bind_guard (by constructor <;> omega), Out.bind_guard (by rw [rgI_length]; show _ ≤ 16777216; omega), Out.compS_unit (o := fun k => if decide (k < (readN ms l : Int)) = true then some k else none) _ _ (fun k hk => by
    rw [mem_rgI] at hk
    have hp := pix_pos (xs := ms) hk.1 hk.2
    obtain ⟨x, hx⟩ : ∃ x, ms[k.toNat]? = some x := ⟨_, List.getElem?_eq_getElem (by omega)⟩
    rw [hx] at hp
    rw [Out.bind_get hp]
    have := readN_iff (l := l) h hx
    have e : decide (x ≤ l) = decide (k < (readN ms l : Int)) := by simp only [decide_eq_decide]; omega
    rw [e]
    split <;> rfl), Out.bind_ok, List.nil_append, filterMap_if]
  have e : (rgI 0 (ms.length : Int)).filter (fun k => decide (k < (readN ms l : Int))) = rgI 0 (readN ms l : Int) := sorted_ext (filter_lt (rgI_lt _ _)) (rgI_lt _ _) fun k => by
    have := readN_le ms l
    rw [List.mem_filter, mem_rgI, mem_rgI, decide_eq_true_eq]; omega
  dsimp only
  rw [e]
  cases hn : readN ms l with
  | zero =>
    rw [if_neg (by rw [rgI_nil (by omega)]; decide), Out.bind_ok]
    unfold readL
    rw [hn]; simp
  | succ n =>
    have hlt : n < ms.length := by have := readN_le ms l; omega
    obtain ⟨x, hx⟩ : ∃ x, ms[n]? = some x := ⟨_, List.getElem?_eq_getElem hlt⟩
    have hs : rgI 0 ((n + 1 : Nat) : Int) = rgI 0 (n : Int) ++ [(n : Int)] := by rw [show ((n + 1 : Nat) : Int) = (n : Int) + 1 from by omega]; exact rgI_snoc (by omega)
    have hlast : pix (rgI 0 ((n + 1 : Nat) : Int)) (-1) = some (n : Int) := pix_last (by rw [hs]; simp)
    rw [if_pos (by rw [hs]; simp), Out.bind_get hlast, Out.bind_get hlast, Out.bind_get (pix_nat hx), Out.bind_ok]
    unfold readL
    rw [hn, Nat.add_sub_cancel, hx]
    simp
theorem fm_some {α β : Type} (f : α → β) (l : List α) : l.filterMap (fun x => some (f x)) = l.map f := by
  rw [← List.filterMap_eq_map]; rfl
theorem mirL_lt {ms : List Int} (h : ms.Pairwise (· < ·)) : (mirL ms).Pairwise (· < ·) := by
  unfold mirL
  rw [List.pairwise_map, List.pairwise_reverse]
  exact h.imp fun hab => by omega
theorem isort_mir {ms : List Int} {x : Int} (h : ms.Pairwise (· < ·)) (hx : ms.getLast? = some x) : isort (ms.map fun m => x - m) = mirL ms := by
  refine isort_eq (List.pairwise_map.mpr (h.imp fun {a b} hab e => by omega)) (mirL_lt h) fun a => ?_
  unfold mirL
  rw [hx]
  simp
theorem resL_lt (ms : List Int) (e l : Int) : (resL ms e l).Pairwise fun a b => ltC (eP eI eB) a b = true := dsort_ltIB (dmk_nodup _)
theorem uIB_res {ms : List Int} {e l : Int} : uIB ((rgI (0 - e) (e + 1)).map fun s => readL ms (l + s)) = resL ms e l :=
  lt_extIB (uIB_lt _) (resL_lt _ _ _) fun b => by
    rw [mem_uIB, mem_resL, List.mem_map]
    constructor
    · rintro ⟨s, h1, h2⟩; rw [mem_rgI] at h1; exact ⟨s, h1.1, by omega, h2.symm⟩
    · rintro ⟨s, h1, h2, h3⟩; exact ⟨s, mem_rgI.mpr ⟨h1, by omega⟩, h3.symm⟩
theorem ddup_le {α : Type} [DecidableEq α] (l : List α) : (ddup l).length ≤ l.length := nodup_lenD _ _ (nodup_ddup l) fun x hx => mem_ddup.mp hx
theorem last_some {ms : List Int} (h : ms ≠ []) : ∃ x, ms.getLast? = some x := ⟨_, List.getLast?_eq_some_getLast h⟩
theorem law_results2_ok {d : List (S × (List Int × Int))} {n : S} {v : List Int × Int} (hv : dget d n = some v) (hu : RulOk (rulOf v)) (he : v.2 ≤ 2) (t : Bool) (o l : Int) : m_law_results d (n, t, o) l = .ok (measL (rulOf v) t o l) := by
  have hlt : v.1.Pairwise (· < ·) := hu.lt
  have hl : v.1.length ≤ 12 := hu.hi
  have e0 : 0 ≤ v.2 := hu.e0
  obtain ⟨x, hx⟩ := last_some (ms := v.1) (fun z => by have := hu.lo; have : 2 ≤ v.1.length := this; rw [z] at this; simp at this)
  unfold m_law_results
  simp only [Out.bind_ok]
  rw [Out.bind_get hv]
  have hi : (if t = true then ((Out.compS (fun (s13 : Unit) (x11 : Int) => (Out.get (pix v.1 (-(1 : Int)))).bind fun x15 => Out.ok (some (x15 - x11), ())) v.1 [] ()).bind fun l14 => Out.ok (isort l14.1)) else (Out.ok v.1)) = .ok (if t = true then mirL v.1 else v.1) := by
    cases t with
    | false => rfl
    | true =>
      rw [if_pos rfl, if_pos rfl, Out.compS_unit (o := fun m => some (x - m)) _ _ (fun m _ => by rw [Out.bind_get (pix_last hx)]), Out.bind_ok, List.nil_append, fm_some, isort_mir hlt hx]
  rw [hi, Out.bind_ok, Out.bind_guard (by constructor <;> omega), Out.bind_guard (by constructor <;> omega), Out.bind_guard (by rw [rgI_length]; show _ ≤ 16777216; omega)]
  have hlt2 : (if t = true then mirL v.1 else v.1).Pairwise (· < ·) := by split; exact mirL_lt hlt; exact hlt
  have hl2 : (if t = true then mirL v.1 else v.1).length ≤ 1000 := by
    split
    · unfold mirL; rw [List.length_map, List.length_reverse]; omega
    · omega
  rw [Out.compS_unit (o := fun s => some (readL (if t = true then mirL v.1 else v.1) ((l - o) + s))) _ _ (fun s _ => by
    rw [law_read_ok hlt2 hl2, Out.nox_ok, Out.bind_ok]), Out.bind_ok, List.nil_append, fm_some]
  rw [Out.bind_guard (by refine Nat.le_trans (ddup_le _) ?_; rw [List.length_map, rgI_length]; omega)]
  show Out.ok (uIB _) = _
  rw [uIB_res]; rfl
theorem law_measuring_yes {d : List (S × (List Int × Int))} (h0 : d ≠ []) (h6 : d.length ≤ 6) (bx : Bh) : (m_law_measuring d bx).yes fun r => r.1.1 ∈ keys d ∧ 0 ≤ r.1.2.2 ∧ r.1.2.2 < 30 := by
  have hp : 0 < d.length := List.length_pos_iff.mpr h0
  unfold m_law_measuring
  refine Out.yes_let (Out.yes_bind (next_yes (by rw [List.length_map]; omega) (by rw [List.length_map]; omega) _) fun r3 h3 => ?_)
  obtain ⟨x4, e4, h4⟩ := pix_some (xs := d.map (·.1)) h3.1 h3.2
  refine Out.yes_get e4 (Out.yes_bind (next_yes (by omega) (by omega) _) fun r5 _ => Out.yes_bind (next_yes (by omega) (by omega) _) fun r6 h6 => ?_)
  obtain ⟨x7, e7, h7⟩ := pix_some (xs := [(1 : Int), 30]) h6.1 (by simp; omega)
  have h7' : x7 = 1 ∨ x7 = 30 := by simpa using h7
  refine Out.yes_get e7 (Out.yes_bind (next_yes (by omega) (by omega) _) fun r8 h8 => Out.yes_ok ⟨h4, h8.1, by dsimp only; omega⟩)
theorem law_sizes_yes {most : Int} (h0 : 0 ≤ most) (h1 : most ≤ 100) (bx : Bh) : (m_law_sizes most bx).yes fun r => r.1.Pairwise (· < ·) ∧ (∀ l, l ∈ r.1 → 1 ≤ l ∧ l < 21 + 2 * most) ∧ (r.1.length : Int) ≤ most := by
  unfold m_law_sizes
  refine Out.yes_bind (next_yes (by omega) (by omega) _) fun r2 h2 => Out.yes_let (Out.yes_guard (by constructor <;> omega) (Out.yes_guard (by constructor <;> omega) (Out.yes_guard (by rw [rgI_length]; show _ ≤ 16777216; omega) ?_)))
  refine Out.yes_bind (R := fun r => r.1.Sublist (rgI (1 + r2.1) (1 + r2.1 + 2 * most))) (Out.compS_yes (fun pre acc _ => acc.Sublist pre) _ _ (List.Sublist.refl _) fun pre x post acc s hp hI => ?_) fun r hr => ?_
  · refine Out.yes_bind (Out.yes_nox (next_yes (by omega) (by omega) _)) fun r10 _ => ?_
    refine Out.yes_if (fun _ => Out.yes_ok ?_) fun _ => Out.yes_ok ?_
    · exact hI.append (List.Sublist.refl _)
    · exact hI.trans (List.sublist_append_left _ _)
  · obtain ⟨k, hk⟩ := Int.eq_ofNat_of_zero_le h0
    refine Out.yes_ok ?_
    dsimp only
    rw [hk, pcut_to]
    have hs : (r.1.take k).Sublist (rgI (1 + r2.1) (1 + r2.1 + 2 * most)) := (List.take_sublist _ _).trans hr
    refine ⟨(rgI_lt _ _).sublist hs, fun l hl => ?_, by rw [List.length_take]; omega⟩
    have := mem_rgI.mp (hs.subset hl)
    omega
theorem nodup_lenG {α : Type} [DecidableEq α] : ∀ {U xs : List α}, xs.Nodup → (∀ x, x ∈ xs → x ∈ U) → xs.length ≤ U.length
  | U, [], _, _ => Nat.zero_le _
  | U, x :: xs, h, hs => by
    have hx := hs x List.mem_cons_self
    have h1 := List.nodup_cons.mp h
    have := nodup_lenG (U := U.erase x) h1.2 fun y hy => by
      have hne : y ≠ x := fun e => h1.1 (e ▸ hy)
      exact (List.mem_erase_of_ne hne).mpr (hs y (List.mem_cons_of_mem _ hy))
    rw [List.length_erase_of_mem hx] at this
    have hp := List.length_pos_of_mem hx
    rw [List.length_cons]; omega
/-- all results that any measuring has -/
def allRes : List (Int × Bool) := (rgI (-1) 12).flatMap fun i => [(i, true), (i, false)]
theorem allRes_len : allRes.length = 26 := by decide
theorem mem_allRes {x : Int × Bool} (h0 : -1 ≤ x.1) (h1 : x.1 ≤ 11) : x ∈ allRes := by
  obtain ⟨i, b⟩ := x
  refine List.mem_flatMap.mpr ⟨i, mem_rgI.mpr ⟨h0, by dsimp only at h1; omega⟩, ?_⟩
  cases b <;> simp
theorem mirL_len {ms : List Int} : (mirL ms).length = ms.length := by unfold mirL; rw [List.length_map, List.length_reverse]
theorem meas_all {u : Rul} (hu : RulOk u) {t : Bool} {o l : Int} {x : Int × Bool} (h : x ∈ measL u t o l) : x ∈ allRes := by
  unfold measL at h
  obtain ⟨s, _, _, rfl⟩ := mem_resL.mp h
  have h1 := readN_le (if t = true then mirL u.marks else u.marks) (l - o + s)
  have h2 : (if t = true then mirL u.marks else u.marks).length ≤ 12 := by
    split
    · rw [mirL_len]; exact hu.hi
    · exact hu.hi
  refine mem_allRes ?_ ?_
  · show -1 ≤ (readN _ _ : Int) - 1; omega
  · show (readN _ _ : Int) - 1 ≤ 11; omega
theorem meas_nodup (u : Rul) (t : Bool) (o l : Int) : (measL u t o l).Nodup := by
  unfold measL resL
  rw [(dsort_perm _).nodup_iff]
  exact dmk_nodup _
theorem hasR_iff {r : Rak} {m : S × Bool × Int} {u : Rul} (hu : dget r.held m.1 = some u) {x : Int × Bool} {v : Int} : hasR r (m, x) v = true ↔ x ∈ measL u m.2.1 m.2.2 v := by
  unfold hasR
  dsimp only
  rw [hu]
  exact memB_iff
/-- what is known of the parts of some lengths -/
structure PartsOk (r : Rak) (m : S × Bool × Int) (vs : List Int) (d : List ((Int × Bool) × List Int)) : Prop where
  nd : (keys d).Nodup
  has : ∀ x, x ∈ keys d ↔ ∃ v, v ∈ vs ∧ hasR r (m, x) v = true
  val : ∀ x, (dget d x).getD [] = vs.filter (hasR r (m, x))
  few : d.length ≤ 26
theorem keys_few {d : List ((Int × Bool) × List Int)} (h : (keys d).Nodup) (h2 : ∀ x, x ∈ keys d → x ∈ allRes) : d.length ≤ 26 := by
  have := nodup_lenG h h2
  rw [allRes_len] at this
  unfold keys at this
  rwa [List.length_map] at this
theorem parted_yes {r : Rak} (hR : RakOk r) {vs : List Int} {m : S × Bool × Int} (h : MeasOk r m) (hl : vs.length ≤ 60) : (m_parted r vs m).yes (PartsOk r m vs) := by
  obtain ⟨⟨u, hu⟩, _⟩ := h
  have hok := held_ok hR hu
  unfold m_parted
  refine Out.yes_let ?_
  refine Out.yes_bind (R := PartsOk r m vs) (Out.fold_yes (fun pre d => PartsOk r m pre d) _ _ ⟨List.nodup_nil, fun x => ⟨fun z => (nomatch z), fun ⟨_, hv, _⟩ => (nomatch hv)⟩, fun x => rfl, Nat.zero_le _⟩ fun pre v post d hp hI => ?_) fun d hd => Out.yes_ok hd
  have hpl : pre.length < 60 := by have : vs.length = pre.length + (post.length + 1) := by rw [hp]; simp
                                   omega
  rw [show m_all_results r m v = _ from all_ok hR hu m.2.1 m.2.2 v, Out.bind_ok]
  have hnd := meas_nodup u m.2.1 m.2.2 v
  refine Out.yes_bind (R := fun d' => (keys d').Nodup ∧ (∀ x, x ∈ keys d' ↔ x ∈ keys d ∨ x ∈ measL u m.2.1 m.2.2 v) ∧ (∀ x, (dget d' x).getD [] = if x ∈ measL u m.2.1 m.2.2 v then (dget d x).getD [] ++ [v] else (dget d x).getD [])) (Out.fold_yes (fun pr d' => (keys d').Nodup ∧ (∀ x, x ∈ keys d' ↔ x ∈ keys d ∨ x ∈ pr) ∧ (∀ x, (dget d' x).getD [] = if x ∈ pr then (dget d x).getD [] ++ [v] else (dget d x).getD [])) _ _ ⟨hI.nd, fun x => by simp, fun x => by rw [if_neg (by simp)]⟩ fun pr x po d' hpr hJ => ?_) fun d' hd' => Out.yes_ok ?_
  · obtain ⟨j1, j2, j3⟩ := hJ
    have hx : x ∉ pr := fun z => by
      rw [hpr, List.nodup_append] at hnd
      exact hnd.2.2 x z x List.mem_cons_self rfl
    have hl2 : ((dget d' x).getD []).length < 60 := by
      rw [j3 x, if_neg hx, hI.val x]
      exact Nat.lt_of_le_of_lt (List.length_filter_le _ _) hpl
    have hl3 : d'.length ≤ 26 := keys_few j1 fun y hy => by
      rcases (j2 y).mp hy with z | z
      · obtain ⟨w, _, hw⟩ := (hI.has y).mp z
        exact meas_all hok ((hasR_iff hu).mp hw)
      · exact meas_all hok (by rw [hpr]; exact List.mem_append_left _ z)
    refine Out.yes_guard (by rw [List.length_singleton]; show _ ≤ 16777216; omega) (Out.yes_guard (by show _ < 16777216; omega) (Out.yes_let (Out.yes_ok ⟨dput_nodup j1, fun y => ?_, fun y => ?_⟩)))
    · rw [mem_keys_dput, j2 y, List.mem_append, List.mem_singleton]
      constructor
      · rintro (e | e | e)
        · exact .inr (.inr e)
        · exact .inl e
        · exact .inr (.inl e)
      · rintro (e | e | e)
        · exact .inr (.inl e)
        · exact .inr (.inr e)
        · exact .inl e
    · rw [dget_dput]
      by_cases e : y = x
      · subst e
        rw [if_pos rfl, if_pos (by simp), j3 y, if_neg hx]; rfl
      · rw [if_neg e, j3 y]
        by_cases e2 : y ∈ pr
        · rw [if_pos e2, if_pos (by simp [e2])]
        · rw [if_neg e2, if_neg (by simp [e, e2])]
  · obtain ⟨j1, j2, j3⟩ := hd'
    refine ⟨j1, fun x => ?_, fun x => ?_, keys_few j1 fun y hy => ?_⟩
    · rw [j2 x, hI.has x]
      constructor
      · rintro (⟨w, hw, e⟩ | e)
        · exact ⟨w, List.mem_append_left _ hw, e⟩
        · exact ⟨v, by simp, (hasR_iff hu).mpr e⟩
      · rintro ⟨w, hw, e⟩
        rcases List.mem_append.mp hw with z | z
        · exact .inl ⟨w, z, e⟩
        · rw [List.mem_singleton] at z; subst z; exact .inr ((hasR_iff hu).mp e)
    · rw [j3 x, hI.val x, List.filter_append]
      by_cases e : x ∈ measL u m.2.1 m.2.2 v
      · rw [if_pos e, List.filter_cons_of_pos ((hasR_iff hu).mpr e)]; rfl
      · rw [if_neg e, List.filter_cons_of_neg (fun z => e ((hasR_iff hu).mp z))]; simp
    · rcases (j2 y).mp hy with z | z
      · obtain ⟨w, _, hw⟩ := (hI.has y).mp z
        exact meas_all hok ((hasR_iff hu).mp hw)
      · exact meas_all hok z
/-- so many measurings are enough -/
def Sd (r : Rak) : Nat → List Int → List (S × Bool × Int) → Prop
  | 0, vs, _ => vs.length < 2
  | c + 1, vs, ms => vs.length < 2 ∨ ∃ (i : Nat) (m : S × Bool × Int), ms[i]? = some m ∧ ∀ x v, v ∈ vs → hasR r (m, x) v = true → Sd r c (vs.filter (hasR r (m, x))) (ms.eraseIdx i)
theorem Sd.few {r : Rak} {c : Nat} {vs : List Int} {ms : List (S × Bool × Int)} (h : vs.length < 2) : Sd r c vs ms := by
  cases c with
  | zero => exact h
  | succ c => exact .inl h
theorem Sd.succ {r : Rak} : ∀ {c : Nat} {vs : List Int} {ms : List (S × Bool × Int)}, Sd r c vs ms → Sd r (c + 1) vs ms
  | 0, vs, ms, h => .inl h
  | c + 1, vs, ms, h => by
    rcases h with h | ⟨i, m, hm, h⟩
    · exact .inl h
    · exact .inr ⟨i, m, hm, fun x v hv hx => (h x v hv hx).succ⟩
theorem Sd.mono {r : Rak} {c : Nat} {vs : List Int} {ms : List (S × Bool × Int)} (h : Sd r c vs ms) : ∀ {e : Nat}, c ≤ e → Sd r e vs ms := fun {e} he => by
  obtain ⟨k, rfl⟩ := Nat.exists_eq_add_of_le he
  clear he
  induction k with
  | zero => exact h
  | succ k ih => exact Sd.succ ih
theorem eraseIdx_len {α : Type} {ms : List α} {i : Nat} {m : α} (h : ms[i]? = some m) : (ms.eraseIdx i).length + 1 = ms.length := by
  have hi := (List.getElem?_eq_some_iff.mp h).1
  rw [List.length_eraseIdx, if_pos hi]; omega
theorem Sd.least {r : Rak} : ∀ {c : Nat} {vs : List Int} {ms : List (S × Bool × Int)}, Sd r c vs ms → Sd r (min c ms.length) vs ms
  | 0, vs, ms, h => by rw [Nat.zero_min]; exact h
  | c + 1, vs, ms, h => by
    rcases h with h | ⟨i, m, hm, h⟩
    · exact Sd.few h
    · have e := eraseIdx_len hm
      rw [show min (c + 1) ms.length = min c (ms.eraseIdx i).length + 1 by omega]
      exact .inr ⟨i, m, hm, fun x v hv hx => (h x v hv hx).least⟩
theorem Sd.more {r : Rak} {n : S × Bool × Int} : ∀ {c : Nat} {vs : List Int} {ms : List (S × Bool × Int)}, Sd r c vs ms → Sd r c vs (ms ++ [n])
  | 0, vs, ms, h => h
  | c + 1, vs, ms, h => by
    rcases h with h | ⟨i, m, hm, h⟩
    · exact .inl h
    · have hi := (List.getElem?_eq_some_iff.mp hm).1
      refine .inr ⟨i, m, by rw [List.getElem?_append_left hi]; exact hm, fun x v hv hx => ?_⟩
      rw [List.eraseIdx_append_of_lt_length hi]
      exact (h x v hv hx).more
theorem mem_erase {α : Type} {ms : List α} {i : Nat} {m : α} (h : m ∈ ms.eraseIdx i) : m ∈ ms := List.mem_of_mem_eraseIdx h
theorem pcut_erase {α : Type} (ms : List α) (i : Nat) : pcut ms none (some (i : Int)) ++ pcut ms (some ((i : Int) + 1)) none = ms.eraseIdx i := by
  rw [show ((i : Int) + 1) = ((i + 1 : Nat) : Int) by omega, pcut_to, pcut_from, List.eraseIdx_eq_take_drop_succ]
/-- how many keys are stored at most -/
def T4 : Nat → Nat
  | 0 => 0
  | c + 1 => 1 + 104 * T4 c
structure GoodS (r : Rak) (s : S_Settler) : Prop where
  rk : s.rack_used = r
  val : ∀ k b, dget s.known k = some b → ∃ c : Nat, k.2.2 = (c : Int) ∧ (b = true ↔ Sd r c k.1 k.2.1)
abbrev Stl (r : Rak) (c : Nat) (g : S_Settler → List Int → List (S × Bool × Int) → Int → Out (Bool × S_Settler)) : Prop :=
  ∀ (s : S_Settler) (vs : List Int) (ms : List (S × Bool × Int)), GoodS r s → (∀ m, m ∈ ms → MeasOk r m) → ms.length ≤ 4 → vs.length ≤ 60 → s.known.length + T4 c < 16000000 →
    (g s vs ms (c : Int)).yes fun p => (p.1 = true ↔ Sd r c vs ms) ∧ GoodS r p.2 ∧ p.2.known.length ≤ s.known.length + T4 c
theorem penum_lenS {α : Type} : ∀ (xs : List α) (k : Nat), (penumF k xs).length = xs.length
  | [], _ => rfl
  | x :: xs, k => by show (penumF (k + 1) xs).length + 1 = _; rw [penum_lenS xs (k + 1)]; rfl
theorem good_yes {r : Rak} (hR : RakOk r) {c : Nat} {g : S_Settler → List Int → List (S × Bool × Int) → Int → Out (Bool × S_Settler)} (hg : Stl r c g) (s : S_Settler) (vs : List Int) (ms : List (S × Bool × Int)) (hs : GoodS r s) (hm : ∀ m, m ∈ ms → MeasOk r m) (h4 : ms.length ≤ 4) (hv : vs.length ≤ 60)
    (hL : s.known.length + 104 * T4 c < 16000000) : (m_Settler_has_good g s vs ms ((c + 1 : Nat) : Int)).yes fun p => (p.1 = true ↔ ∃ (i : Nat) (m : S × Bool × Int), ms[i]? = some m ∧ ∀ x v, v ∈ vs → hasR r (m, x) v = true → Sd r c (vs.filter (hasR r (m, x))) (ms.eraseIdx i)) ∧ GoodS r p.2 ∧ p.2.known.length ≤ s.known.length + 104 * T4 c := by
  unfold m_Settler_has_good
  refine Out.yes_bind (Out.loop_yes (fun pre (t : Rak × List ((List Int × List (S × Bool × Int) × Int) × Bool)) => GoodS r ⟨t.1, t.2⟩ ∧ t.2.length ≤ s.known.length + pre.length * (26 * T4 c) ∧
      ∀ (i : Nat) (m : S × Bool × Int), i < pre.length → ms[i]? = some m → ¬ ∀ x v, v ∈ vs → hasR r (m, x) v = true → Sd r c (vs.filter (hasR r (m, x))) (ms.eraseIdx i))
    (fun v => v.1 = true ∧ GoodS r v.2 ∧ v.2.known.length ≤ s.known.length + 104 * T4 c ∧ ∃ (i : Nat) (m : S × Bool × Int), ms[i]? = some m ∧ ∀ x v, v ∈ vs → hasR r (m, x) v = true → Sd r c (vs.filter (hasR r (m, x))) (ms.eraseIdx i)) _ _ ⟨hs, by simp, fun i m hi => by cases hi⟩ fun pre x post t hp hI => ?_) fun t ht => ?_
  · obtain ⟨i1, i2, i3⟩ := hI
    obtain ⟨i, hi, hxi, hxm, _⟩ := penum_split hp
    have hlt := (List.getElem?_eq_some_iff.mp hxm).1
    have hM := hm _ (List.mem_of_getElem? hxm)
    have he := eraseIdx_len hxm
    have hrest := pcut_erase ms i
    rw [hxi, hrest]
    refine Out.yes_guard (by rw [← List.length_append, hrest]; show _ ≤ 16777216; omega) (Out.yes_let ?_)
    have hrk : t.1 = r := i1.rk
    have i1' : GoodS r ⟨r, t.2⟩ := by have z := i1; rw [hrk] at z; exact z
    rw [hrk]
    refine Out.yes_bind (Out.yes_nox (parted_yes hR hM hv)) fun d hd => Out.yes_let ?_
    have hpm : pre.length * (26 * T4 c) ≤ 3 * (26 * T4 c) := Nat.mul_le_mul_right _ (by omega)
    have hpart : ∀ p, p ∈ d.map (·.2) → ∃ y, y ∈ keys d ∧ p = vs.filter (hasR r (x.2, y)) := fun p hp => by
      obtain ⟨⟨y, q⟩, hq, rfl⟩ := List.mem_map.mp hp
      refine ⟨y, List.mem_map.mpr ⟨_, hq, rfl⟩, ?_⟩
      have := hd.val y
      rw [dget_of_mem hd.nd hq] at this
      exact this
    have hall : (∀ p, p ∈ d.map (·.2) → Sd r c p (ms.eraseIdx i)) ↔ ∀ y v, v ∈ vs → hasR r (x.2, y) v = true → Sd r c (vs.filter (hasR r (x.2, y))) (ms.eraseIdx i) := by
      constructor
      · intro h y v hv hy
        obtain ⟨q, hq⟩ := dget_some ((hd.has y).mpr ⟨v, hv, hy⟩)
        have := hd.val y
        rw [hq] at this
        rw [← this]
        exact h q (List.mem_map.mpr ⟨_, dget_mem hq, rfl⟩)
      · intro h p hp
        obtain ⟨y, hy, rfl⟩ := hpart p hp
        obtain ⟨v, hv, e⟩ := (hd.has y).mp hy
        exact h y v hv e
    have hdl : (d.map (·.2)).length ≤ 26 := by rw [List.length_map]; exact hd.few
    rw [show (((c + 1 : Nat) : Int) - 1) = (c : Int) by omega]
    refine Out.yes_bind (R := fun l : List Bool × S_Settler => GoodS r l.2 ∧ l.2.known.length ≤ t.2.length + 26 * T4 c ∧ (l.1.all id = true ↔ ∀ p, p ∈ d.map (·.2) → Sd r c p (ms.eraseIdx i))) (Out.yes.mono (Out.compS_yes (fun pr acc (q : S_Settler) => GoodS r q ∧ q.known.length ≤ t.2.length + pr.length * T4 c ∧ (acc.all id = true ↔ ∀ p, p ∈ pr → Sd r c p (ms.eraseIdx i))) _ _ ⟨i1', by simp, by simp⟩ fun pr p po acc q hpp hJ => ?_) fun l hl => ⟨hl.1, Nat.le_trans hl.2.1 (Nat.add_le_add_left (Nat.mul_le_mul_right _ hdl) _), hl.2.2⟩) fun l ⟨l1, l2, l3⟩ => ?_
    · obtain ⟨j1, j2, j3⟩ := hJ
      have hpl : pr.length + 1 ≤ 26 := by
        have : (d.map (·.2)).length = pr.length + (po.length + 1) := by rw [hpp]; simp
        omega
      have hpm2 : (pr.length + 1) * T4 c ≤ 26 * T4 c := Nat.mul_le_mul_right _ hpl
      rw [Nat.add_mul, Nat.one_mul] at hpm2
      have hpv : p.length ≤ 60 := by
        obtain ⟨y, _, rfl⟩ := hpart p (by rw [hpp]; simp)
        exact Nat.le_trans (List.length_filter_le _ _) hv
      refine Out.yes_bind (Out.yes_nox (hg q p (ms.eraseIdx i) j1 (fun m hm' => hm m (mem_erase hm')) (by omega) hpv (by omega))) fun r22 ⟨k1, k2, k3⟩ => Out.yes_ok ⟨k2, ?_, ?_⟩
      · rw [List.length_append, List.length_singleton, Nat.add_mul, Nat.one_mul]; show r22.2.known.length ≤ _; omega
      · show (acc ++ [r22.1]).all id = true ↔ _
        rw [List.all_append, Bool.and_eq_true, j3]
        constructor
        · rintro ⟨a1, a2⟩ y hy
          rcases List.mem_append.mp hy with z | z
          · exact a1 y z
          · rw [List.mem_singleton] at z; subst z; exact k1.mp (by simpa using a2)
        · intro h
          exact ⟨fun y hy => h y (List.mem_append_left _ hy), by simpa using k1.mpr (h p (by simp))⟩
    refine Out.yes_if (fun hc => Out.yes_ok ⟨rfl, l1, ?_, i, x.2, hxm, hall.mp (l3.mp hc)⟩) fun hc => Out.yes_ok ⟨l1, ?_, fun j m hj hjm => ?_⟩
    · dsimp only; omega
    · dsimp only; rw [List.length_append, List.length_singleton, Nat.add_mul, Nat.one_mul]; omega
    · rw [List.length_append, List.length_singleton] at hj
      by_cases e : j = i
      · subst e
        rw [hxm] at hjm; cases hjm
        intro h
        rw [l3.mpr (hall.mpr h)] at hc; cases hc
      · exact i3 j m (by omega) hjm
  · cases t with
    | rt v => exact Out.yes_ok ⟨⟨fun _ => ht.2.2.2, fun _ => ht.1⟩, ht.2.1, ht.2.2.1⟩
    | nx t =>
      obtain ⟨i1, i2, i3⟩ := ht
      have hpn : (penum ms).length = ms.length := penum_lenS ms 0
      rw [hpn] at i2 i3
      have hpm : ms.length * (26 * T4 c) ≤ 4 * (26 * T4 c) := Nat.mul_le_mul_right _ h4
      refine Out.yes_ok ⟨⟨fun z => (nomatch z), fun ⟨i, m, hm', h⟩ => absurd h (i3 i m (List.getElem?_eq_some_iff.mp hm').1 hm')⟩, i1, by dsimp only; omega⟩
theorem settled_yes {r : Rak} (hR : RakOk r) : ∀ (c n : Nat), c < n → Stl r c (m_Settler_is_settled n)
  | c, 0, h => absurd h (by omega)
  | 0, n + 1, _ => fun s vs ms hs hm h4 hv hL => by
    unfold m_Settler_is_settled
    refine Out.yes_if (fun hc => Out.yes_ok ⟨⟨fun _ => (by have := of_decide_eq_true hc; show vs.length < 2; omega), fun _ => rfl⟩, hs, Nat.le_add_right _ _⟩) fun hc => ?_
    rw [if_pos (by simp)]
    refine Out.yes_ok ⟨⟨fun z => (by cases z), fun z => ?_⟩, hs, Nat.le_add_right _ _⟩
    have z : vs.length < 2 := z
    rw [decide_eq_false_iff_not] at hc; omega
  | c + 1, n + 1, h => fun s vs ms hs hm h4 hv hL => by
    have hg := settled_yes hR c n (by omega)
    have hT : T4 (c + 1) = 1 + 104 * T4 c := rfl
    unfold m_Settler_is_settled
    refine Out.yes_if (fun hc => Out.yes_ok ⟨⟨fun _ => .inl (by have := of_decide_eq_true hc; omega), fun _ => rfl⟩, hs, Nat.le_add_right _ _⟩) fun hc => ?_
    rw [decide_eq_false_iff_not] at hc
    rw [if_neg (by simp; omega)]
    refine Out.yes_let ?_
    refine Out.yes_bind (R := fun q => ∃ b, dget q.1 (vs, ms, ((c + 1 : Nat) : Int)) = some b ∧ (b = true ↔ Sd r (c + 1) vs ms) ∧ GoodS r ⟨q.2, q.1⟩ ∧ q.1.length ≤ s.known.length + T4 (c + 1)) ?_ fun q ⟨b, h1, h2, h3, h4'⟩ => Out.yes_get h1 (Out.yes_ok ⟨h2, h3, h4'⟩)
    refine Out.yes_if (fun hk => ?_) fun hk => ?_
    · refine Out.yes_bind (good_yes hR hg s vs ms hs hm h4 hv (by omega)) fun p ⟨p1, p2, p3⟩ => ?_
      have e : (p.1 = true ↔ Sd r (c + 1) vs ms) := by
        rw [p1]
        exact ⟨.inr, fun z => z.resolve_left (by omega)⟩
      refine Out.yes_guard (by show _ < 16777216; omega) (Out.yes_ok ⟨p.1, by rw [dget_dput, if_pos rfl], e, ⟨p2.rk, fun k b hb => ?_⟩, ?_⟩)
      · dsimp only at hb
        rw [dget_dput] at hb
        by_cases ek : k = (vs, ms, ((c + 1 : Nat) : Int))
        · rw [if_pos ek] at hb; cases hb; subst ek; exact ⟨c + 1, rfl, e⟩
        · rw [if_neg ek] at hb; exact p2.val k b hb
      · have := dput_len p.2.known (vs, ms, ((c + 1 : Nat) : Int)) p.1
        dsimp only; omega
    · have hk : dhas s.known (vs, ms, ((c + 1 : Nat) : Int)) = true := by simpa using hk
      obtain ⟨b, hb⟩ := dget_some (dhas_iff.mp hk)
      obtain ⟨c', e1, e2⟩ := hs.val _ _ hb
      have e1 : ((c + 1 : Nat) : Int) = (c' : Int) := e1
      obtain rfl : c + 1 = c' := by omega
      exact Out.yes_ok ⟨b, hb, e2, ⟨hs.rk, hs.val⟩, Nat.le_add_right _ _⟩
theorem idxI_someS {k : Int} : ∀ {xs : List Int}, k ∈ xs → ∃ j, idxI k xs = some j := fun {xs} => by
  induction xs with
  | nil => intro h; cases h
  | cons x xs ih =>
    intro h
    unfold idxI
    by_cases e : x = k
    · exact ⟨0, by rw [if_pos e]⟩
    · obtain ⟨j, hj⟩ := ih ((List.mem_cons.mp h).resolve_left fun z => e z.symm)
      exact ⟨j + 1, by rw [if_neg e, hj]; rfl⟩
theorem fewest_yes {r : Rak} (hR : RakOk r) {vs : List Int} {ms : List (S × Bool × Int)} (hm : ∀ m, m ∈ ms → MeasOk r m) (h4 : ms.length ≤ 4) (hv : vs.length ≤ 60) (hl : ∀ l, l ∈ vs → 1 ≤ l ∧ l ≤ 300) :
    (m_fewest_measurings r vs ms).yes fun o => match o with
      | some k => ∃ c : Nat, k = (c : Int) ∧ c ≤ ms.length ∧ Sd r c vs ms ∧ ∀ j, j < c → ¬ Sd r j vs ms
      | none => ∀ j, j ≤ ms.length → ¬ Sd r j vs ms := by
  unfold m_fewest_measurings
  rw [vmeas_ok hm, Out.bind_ok, vlen_ok_t hl, Out.bind_ok]
  refine Out.yes_ifF (by simp; omega) ?_
  refine Out.yes_bind (R := fun s => GoodS r s ∧ s.known.length = 0) (Out.yes_nox (Out.yes_ok ⟨⟨rfl, fun k b hb => by cases hb⟩, rfl⟩)) fun s0 ⟨g0, l0⟩ => ?_
  refine Out.yes_guard (by constructor <;> omega) ?_
  rw [show ((ms.length : Int) + 1) = ((ms.length + 1 : Nat) : Int) by omega]
  have hT : ∀ c, c ≤ 4 → T4 c ≤ 1200000 := fun c hc => by
    have : c = 0 ∨ c = 1 ∨ c = 2 ∨ c = 3 ∨ c = 4 := by omega
    rcases this with rfl | rfl | rfl | rfl | rfl <;> decide
  have hlen : (rgI 0 ((ms.length + 1 : Nat) : Int)).length = ms.length + 1 := by rw [rgI_length]; omega
  refine Out.yes_bind (Out.loop_yes (fun pre (s : S_Settler) => GoodS r s ∧ s.known.length ≤ pre.length * 1200000 ∧ ∀ j, j < pre.length → ¬ Sd r j vs ms) (fun o => ∃ k, o = some k ∧ ∃ c : Nat, k = (c : Int) ∧ c ≤ ms.length ∧ Sd r c vs ms ∧ ∀ j, j < c → ¬ Sd r j vs ms) _ _ ⟨g0, by omega, fun j hj => by cases hj⟩ fun pre x post s hp hI => ?_) fun t ht => ?_
  · obtain ⟨i1, i2, i3⟩ := hI
    have hpl : pre.length + (post.length + 1) = ms.length + 1 := by rw [← hlen, hp]; simp
    have hx : x = (pre.length : Int) := by
      have := (rgI_get (a := 0) (b := ((ms.length + 1 : Nat) : Int)) (i := pre.length) (x := x) (by rw [hp]; simp)).2
      omega
    subst hx
    have hT' := hT pre.length (by omega)
    have hmul : pre.length * 1200000 ≤ 4 * 1200000 := Nat.mul_le_mul_right _ (by omega)
    refine Out.yes_bind (Out.yes_nox (settled_yes hR pre.length 6 (by omega) s vs ms i1 hm h4 hv (by omega))) fun p ⟨p1, p2, p3⟩ => ?_
    refine Out.yes_if (fun hc => Out.yes_ok ⟨_, rfl, pre.length, rfl, by omega, p1.mp hc, i3⟩) fun hc => Out.yes_ok ⟨p2, ?_, fun j hj => ?_⟩
    · rw [List.length_append, List.length_singleton, Nat.add_mul, Nat.one_mul]; omega
    · rw [List.length_append, List.length_singleton] at hj
      by_cases e : j = pre.length
      · subst e; intro z; rw [p1.mpr z] at hc; cases hc
      · exact i3 j (by omega)
  · cases t with
    | rt v =>
      obtain ⟨k, rfl, h⟩ := ht
      exact Out.yes_ok h
    | nx s =>
      refine Out.yes_ok fun j hj => ht.2.2 j (by rw [hlen]; omega)
theorem drawn_get {d : List (S × (List Int × Int))} {r : Rak} (hD : DrOk d) (hR : RakOk r) (hp : r.held.Perm (heldOf d)) {n : S} (hn : n ∈ keys d) : ∃ v, dget d n = some v ∧ (n, v) ∈ d ∧ dget r.held n = some (rulOf v) := by
  obtain ⟨v, hv⟩ := dget_some hn
  have hm := dget_mem hv
  exact ⟨v, hv, hm, dget_of_mem hR.nd (hp.mem_iff.mpr (List.mem_map.mpr ⟨_, hm, rfl⟩))⟩
theorem law_parts_yes {dh : List (S × (List Int × Int))} (hD : DrOk dh) (hE : ∀ p, p ∈ dh → p.2.2 ≤ 2 ∧ p.2.1.length ≤ 4) {r : Rak} (hR : RakOk r) (hP : r.held.Perm (heldOf dh)) {vs : List Int} {m : S × Bool × Int} (h : m.1 ∈ keys dh) (hl : vs.length ≤ 60) : (m_law_parts dh vs m).yes (PartsOk r m vs) := by
  obtain ⟨u0, hv0, hvm, hu⟩ := drawn_get hD hR hP h
  have hok := hD.ru _ hvm
  unfold m_law_parts
  refine Out.yes_let ?_
  refine Out.yes_bind (R := PartsOk r m vs) (Out.fold_yes (fun pre d => PartsOk r m pre d) _ _ ⟨List.nodup_nil, fun x => ⟨fun z => (nomatch z), fun ⟨_, hv, _⟩ => (nomatch hv)⟩, fun x => rfl, Nat.zero_le _⟩ fun pre v post d hp hI => ?_) fun d hd => Out.yes_ok hd
  have hpl : pre.length < 60 := by have : vs.length = pre.length + (post.length + 1) := by rw [hp]; simp
                                   omega
  rw [show m_law_results dh m v = _ from law_results2_ok hv0 hok (hE _ hvm).1 m.2.1 m.2.2 v, Out.bind_ok]
  have hnd := meas_nodup (rulOf u0) m.2.1 m.2.2 v
  refine Out.yes_bind (R := fun d' => (keys d').Nodup ∧ (∀ x, x ∈ keys d' ↔ x ∈ keys d ∨ x ∈ measL (rulOf u0) m.2.1 m.2.2 v) ∧ (∀ x, (dget d' x).getD [] = if x ∈ measL (rulOf u0) m.2.1 m.2.2 v then (dget d x).getD [] ++ [v] else (dget d x).getD [])) (Out.fold_yes (fun pr d' => (keys d').Nodup ∧ (∀ x, x ∈ keys d' ↔ x ∈ keys d ∨ x ∈ pr) ∧ (∀ x, (dget d' x).getD [] = if x ∈ pr then (dget d x).getD [] ++ [v] else (dget d x).getD [])) _ _ ⟨hI.nd, fun x => by simp, fun x => by rw [if_neg (by simp)]⟩ fun pr x po d' hpr hJ => ?_) fun d' hd' => Out.yes_ok ?_
  · obtain ⟨j1, j2, j3⟩ := hJ
    have hx : x ∉ pr := fun z => by
      rw [hpr, List.nodup_append] at hnd
      exact hnd.2.2 x z x List.mem_cons_self rfl
    have hl2 : ((dget d' x).getD []).length < 60 := by
      rw [j3 x, if_neg hx, hI.val x]
      exact Nat.lt_of_le_of_lt (List.length_filter_le _ _) hpl
    have hl3 : d'.length ≤ 26 := keys_few j1 fun y hy => by
      rcases (j2 y).mp hy with z | z
      · obtain ⟨w, _, hw⟩ := (hI.has y).mp z
        exact meas_all hok ((hasR_iff hu).mp hw)
      · exact meas_all hok (by rw [hpr]; exact List.mem_append_left _ z)
    refine Out.yes_guard (by rw [List.length_singleton]; show _ ≤ 16777216; omega) (Out.yes_guard (by show _ < 16777216; omega) (Out.yes_let (Out.yes_ok ⟨dput_nodup j1, fun y => ?_, fun y => ?_⟩)))
    · rw [mem_keys_dput, j2 y, List.mem_append, List.mem_singleton]
      constructor
      · rintro (e | e | e)
        · exact .inr (.inr e)
        · exact .inl e
        · exact .inr (.inl e)
      · rintro (e | e | e)
        · exact .inr (.inl e)
        · exact .inr (.inr e)
        · exact .inl e
    · rw [dget_dput]
      by_cases e : y = x
      · subst e
        rw [if_pos rfl, if_pos (by simp), j3 y, if_neg hx]; rfl
      · rw [if_neg e, j3 y]
        by_cases e2 : y ∈ pr
        · rw [if_pos e2, if_pos (by simp [e2])]
        · rw [if_neg e2, if_neg (by simp [e, e2])]
  · obtain ⟨j1, j2, j3⟩ := hd'
    refine ⟨j1, fun x => ?_, fun x => ?_, keys_few j1 fun y hy => ?_⟩
    · rw [j2 x, hI.has x]
      constructor
      · rintro (⟨w, hw, e⟩ | e)
        · exact ⟨w, List.mem_append_left _ hw, e⟩
        · exact ⟨v, by simp, (hasR_iff hu).mpr e⟩
      · rintro ⟨w, hw, e⟩
        rcases List.mem_append.mp hw with z | z
        · exact .inl ⟨w, z, e⟩
        · rw [List.mem_singleton] at z; subst z; exact .inr ((hasR_iff hu).mp e)
    · rw [j3 x, hI.val x, List.filter_append]
      by_cases e : x ∈ measL (rulOf u0) m.2.1 m.2.2 v
      · rw [if_pos e, List.filter_cons_of_pos ((hasR_iff hu).mpr e)]; rfl
      · rw [if_neg e, List.filter_cons_of_neg (fun z => e ((hasR_iff hu).mp z))]; simp
    · rcases (j2 y).mp hy with z | z
      · obtain ⟨w, _, hw⟩ := (hI.has y).mp z
        exact meas_all hok ((hasR_iff hu).mp hw)
      · exact meas_all hok z
theorem PartsOk.get {r : Rak} {m : S × Bool × Int} {vs : List Int} {d : List ((Int × Bool) × List Int)} (h : PartsOk r m vs d) {x : Int × Bool} (hx : x ∈ keys d) : dget d x = some (vs.filter (hasR r (m, x))) := by
  obtain ⟨w, hw⟩ := dget_some hx
  have := h.val x
  rw [hw] at this
  rw [hw, ← this]; rfl
theorem maxI_ex {xs : List Int} (h : xs ≠ []) : ∃ m, maxI xs = some m := by
  cases xs with
  | nil => exact absurd rfl h
  | cons a xs => exact ⟨_, rfl⟩
theorem minI_ex {xs : List Int} (h : xs ≠ []) : ∃ m, minI xs = some m := by
  cases xs with
  | nil => exact absurd rfl h
  | cons a xs => exact ⟨_, rfl⟩
theorem least_yes {d : List (S × (List Int × Int))} (hD : DrOk d) (hE : ∀ p, p ∈ d → p.2.2 ≤ 2 ∧ p.2.1.length ≤ 4) {r : Rak} (hR : RakOk r) (hP : r.held.Perm (heldOf d)) : ∀ (n : Nat) (vs : List Int) (ms : List (S × Bool × Int)), ms.length < n → (∀ m, m ∈ ms → m.1 ∈ keys d) → ms.length ≤ 60 → vs.length ≤ 60 →
    (m_law_least n d vs ms).yes fun w => 0 ≤ w ∧ w ≤ 99 ∧ ∀ c : Nat, c < 99 → (w ≤ (c : Int) ↔ Sd r c vs ms)
  | 0, vs, ms, h, _, _, _ => absurd h (by omega)
  | n + 1, vs, ms, hn, hm, h60, hv => by
    unfold m_law_least
    refine Out.yes_if (fun hc => Out.yes_ok ⟨by omega, by omega, fun c _ => ⟨fun _ => Sd.few (by have := of_decide_eq_true hc; omega), fun _ => by omega⟩⟩) fun hc => ?_
    rw [decide_eq_false_iff_not] at hc
    have h0 : vs ≠ [] := fun z => hc (by rw [z]; decide)
    refine Out.yes_let (Out.yes_guard (by constructor <;> omega) ?_)
    refine Out.yes_bind (R := fun s => 1 ≤ s ∧ s ≤ 99 ∧ ∀ c : Nat, c < 98 → (s ≤ (c : Int) + 1 ↔ ∃ (i : Nat) (m : S × Bool × Int), i < ms.length ∧ ms[i]? = some m ∧ ∀ x v, v ∈ vs → hasR r (m, x) v = true → Sd r c (vs.filter (hasR r (m, x))) (ms.eraseIdx i)))
      (Out.yes.mono (Out.fold_yes (fun pre s => 1 ≤ s ∧ s ≤ 99 ∧ ∀ c : Nat, c < 98 → (s ≤ (c : Int) + 1 ↔ ∃ (i : Nat) (m : S × Bool × Int), i < pre.length ∧ ms[i]? = some m ∧ ∀ x v, v ∈ vs → hasR r (m, x) v = true → Sd r c (vs.filter (hasR r (m, x))) (ms.eraseIdx i))) _ _
        ⟨by omega, by omega, fun c hc => ⟨fun z => absurd z (by omega), fun ⟨i, _, hi, _⟩ => absurd hi (Nat.not_lt_zero _)⟩⟩ fun pre x post s hp hI => ?_) fun s hs => ?_) fun s ⟨s1, s2, s3⟩ => ?_
    · obtain ⟨i1, i2, i3⟩ := hI
      have hll : (rgI 0 (ms.length : Int)).length = pre.length + (post.length + 1) := by rw [hp]; simp
      rw [rgI_length] at hll
      have hx : x = (pre.length : Int) := by
        have := (rgI_get (a := 0) (b := (ms.length : Int)) (i := pre.length) (x := x) (by rw [hp]; simp)).2
        omega
      subst hx
      have hlt : pre.length < ms.length := by omega
      obtain ⟨m, hmm⟩ : ∃ m, ms[pre.length]? = some m := ⟨_, List.getElem?_eq_getElem hlt⟩
      have hM := hm m (List.mem_of_getElem? hmm)
      obtain ⟨u0, hv0, hvm, hu⟩ := drawn_get hD hR hP hM
      have hok := hD.ru _ hvm
      have he := eraseIdx_len hmm
      refine Out.yes_get (pix_nat hmm) (Out.yes_bind (law_parts_yes hD hE hR hP hM hv) fun dd hd => ?_)
      have hdl := hd.few
      have hkne : keys dd ≠ [] := by
        obtain ⟨v, hv1⟩ := List.exists_mem_of_ne_nil vs h0
        have hr := resL_len (ms := if m.2.1 = true then mirL (rulOf u0).marks else (rulOf u0).marks) (l := v - m.2.2) hok.e0
        obtain ⟨y, hy⟩ := List.exists_mem_of_length_pos (l := measL (rulOf u0) m.2.1 m.2.2 v) hr.1
        exact List.ne_nil_of_mem ((hd.has y).mpr ⟨v, hv1, (hasR_iff hu).mpr hy⟩)
      refine Out.yes_bind (R := fun s' : Int => 1 ≤ s' ∧ s' ≤ 99 ∧ ∀ c : Nat, c < 98 → (s' ≤ (c : Int) + 1 ↔ s ≤ (c : Int) + 1 ∨ ∀ y, y ∈ keys dd → Sd r c (vs.filter (hasR r (m, y))) (ms.eraseIdx pre.length))) ?_ fun s' ⟨a1, a2, a3⟩ => Out.yes_ok ⟨a1, a2, fun c hc => ?_⟩
      · refine Out.yes_if (fun _ => ?_) fun hf => ?_
        · rw [pcut_erase]
          refine Out.yes_guard (by rw [← List.length_append, pcut_erase]; show _ ≤ 16777216; omega) (Out.yes_let ?_)
          refine Out.yes_bind (R := fun q => q.1 ≠ [] ∧ (∀ a, a ∈ q.1 → 0 ≤ a ∧ a ≤ 99) ∧ ∀ c : Nat, c < 98 → ((∀ a, a ∈ q.1 → a ≤ (c : Int)) ↔ ∀ y, y ∈ keys dd → Sd r c (vs.filter (hasR r (m, y))) (ms.eraseIdx pre.length)))
            (Out.yes.mono (Out.compS_yes (fun pr (acc : List Int) (_ : Unit) => acc.length = pr.length ∧ (∀ a, a ∈ acc → 0 ≤ a ∧ a ≤ 99) ∧ ∀ c : Nat, c < 98 → ((∀ a, a ∈ acc → a ≤ (c : Int)) ↔ ∀ y, y ∈ pr → Sd r c (vs.filter (hasR r (m, y))) (ms.eraseIdx pre.length))) _ _ ⟨rfl, fun a ha => (nomatch ha), fun c _ => ⟨fun _ y hy => (nomatch hy), fun _ a ha => (nomatch ha)⟩⟩ fun pr y po acc u hpr hJ => ?_) fun q hq => ⟨fun z => ?_, hq.2⟩) fun q ⟨q1, q2, q3⟩ => ?_
          · obtain ⟨j1, j2, j3⟩ := hJ
            have hy : y ∈ keys dd := by show y ∈ dd.map (·.1); rw [hpr]; simp
            refine Out.yes_get (hd.get hy) (Out.yes_bind (Out.yes_nox (least_yes hD hE hR hP n _ (ms.eraseIdx pre.length) (by omega) (fun m' hm' => hm m' (mem_erase hm')) (by omega) (Nat.le_trans (List.length_filter_le _ _) hv))) fun w ⟨w0, w1, w2⟩ => Out.yes_ok ⟨?_, fun a ha => ?_, fun c hc => ?_⟩)
            · show (acc ++ [w]).length = _
              rw [List.length_append, List.length_append, j1]; rfl
            · rcases List.mem_append.mp ha with z | z
              · exact j2 a z
              · rw [List.mem_singleton] at z; subst z; exact ⟨w0, w1⟩
            · have h2 := w2 c (by omega)
              have h3 := j3 c hc
              constructor
              · intro h z hz
                rcases List.mem_append.mp hz with q | q
                · exact h3.mp (fun a ha => h a (List.mem_append_left _ ha)) z q
                · rw [List.mem_singleton] at q; subst q
                  exact h2.mp (h w (List.mem_append_right _ List.mem_cons_self))
              · intro h a ha
                rcases List.mem_append.mp ha with q | q
                · exact h3.mpr (fun z hz => h z (List.mem_append_left _ hz)) a q
                · rw [List.mem_singleton] at q; subst q
                  exact h2.mpr (h y (by simp))
          · have := hq.1
            rw [z] at this
            exact hkne (List.length_eq_zero_iff.mp this.symm)
          · obtain ⟨mx, hmx⟩ := maxI_ex q1
            obtain ⟨k1, k2⟩ := maxI_spec hmx
            have hb := q2 mx k1
            refine Out.yes_get hmx (Out.yes_let (Out.yes_ok ⟨by split <;> omega, by split <;> omega, fun c hc => ?_⟩))
            rw [← q3 c hc]
            constructor
            · intro h
              by_cases e : s ≤ (c : Int) + 1
              · exact .inl e
              · exact .inr fun a ha => by have := k2 a ha; split at h <;> omega
            · rintro (h | h)
              · split <;> omega
              · have := h mx k1
                split <;> omega
        · refine Out.yes_ok ⟨i1, i2, fun c hc => ⟨.inl, fun h => h.resolve_right fun h2 => ?_⟩⟩
          rw [Bool.or_eq_false_iff] at hf
          obtain ⟨f1, f2⟩ := hf
          rw [decide_eq_false_iff_not] at f2
          have f1 : memB vs (dd.map (·.2)) = true := by simpa using f1
          obtain ⟨p, hp1, hp2⟩ := List.mem_map.mp (memB_iff.mp f1)
          have hpk : p.1 ∈ keys dd := List.mem_map.mpr ⟨p, hp1, rfl⟩
          have hg := dget_of_mem hd.nd (show (p.1, p.2) ∈ dd from hp1)
          rw [hd.get hpk, hp2] at hg
          have hgs := Option.some.inj hg
          have := h2 p.1 hpk
          rw [hgs, List.eq_nil_of_length_eq_zero (l := ms.eraseIdx pre.length) (by omega)] at this
          cases c with
          | zero => have this : vs.length < 2 := this; omega
          | succ c =>
            rcases this with z | ⟨i, m', z, _⟩
            · omega
            · simp at z
      · have h3 := i3 c hc
        have h5 : (∀ y, y ∈ keys dd → Sd r c (vs.filter (hasR r (m, y))) (ms.eraseIdx pre.length)) ↔ ∀ y v, v ∈ vs → hasR r (m, y) v = true → Sd r c (vs.filter (hasR r (m, y))) (ms.eraseIdx pre.length) :=
          ⟨fun h y v hv hy => h y ((hd.has y).mpr ⟨v, hv, hy⟩), fun h y hy => by obtain ⟨v, hv, e⟩ := (hd.has y).mp hy; exact h y v hv e⟩
        rw [a3 c hc, h5, List.length_append, List.length_singleton]
        constructor
        · rintro (h | h)
          · obtain ⟨i, m', a, b, d⟩ := h3.mp h
            exact ⟨i, m', by omega, b, d⟩
          · exact ⟨pre.length, m, by omega, hmm, h⟩
        · rintro ⟨i, m', a, b, d⟩
          by_cases q : i = pre.length
          · subst q
            rw [hmm] at b; cases b
            exact .inr d
          · exact .inl (h3.mpr ⟨i, m', by omega, b, d⟩)
    · have hll : (rgI 0 (ms.length : Int)).length = ms.length := by rw [rgI_length]; omega
      rw [hll] at hs; exact hs
    · refine Out.yes_ok ⟨by omega, s2, fun c hc' => ?_⟩
      cases c with
      | zero => exact ⟨fun z => absurd z (by omega), fun z => by have z : vs.length < 2 := z; omega⟩
      | succ c =>
        have := s3 c (by omega)
        rw [show (((c + 1 : Nat) : Int)) = (c : Int) + 1 by omega, this]
        constructor
        · rintro ⟨i, m, _, b, d⟩; exact .inr ⟨i, m, b, d⟩
        · intro z
          obtain ⟨i, m, b, d⟩ := z.resolve_left (by omega)
          exact ⟨i, m, (List.getElem?_eq_some_iff.mp b).1, b, d⟩
/-- the most lengths that are left behind a measuring -/
def WL (r : Rak) (vs : List Int) (m : S × Bool × Int) (a : Int) : Prop := (∀ x, ((vs.filter (hasR r (m, x))).length : Int) ≤ a) ∧ ∃ x, a = ((vs.filter (hasR r (m, x))).length : Int)
theorem WL.uniq {r : Rak} {vs : List Int} {m : S × Bool × Int} {a b : Int} (h : WL r vs m a) (g : WL r vs m b) : a = b := by
  obtain ⟨h1, x, h2⟩ := h
  obtain ⟨g1, y, g2⟩ := g
  have := h1 y
  have := g1 x
  omega
open Classical in
noncomputable def wst (r : Rak) (vs : List Int) (m : S × Bool × Int) : Int := if h : ∃ a, WL r vs m a then Classical.choose h else 0
theorem WL.eq {r : Rak} {vs : List Int} {m : S × Bool × Int} {a : Int} (h : WL r vs m a) : a = wst r vs m := by
  have hx : ∃ a, WL r vs m a := ⟨a, h⟩
  unfold wst
  rw [dif_pos hx]
  exact h.uniq (Classical.choose_spec hx)
theorem PartsOk.zero {r : Rak} {m : S × Bool × Int} {vs : List Int} {d : List ((Int × Bool) × List Int)} (h : PartsOk r m vs d) {x : Int × Bool} (hx : x ∉ keys d) : vs.filter (hasR r (m, x)) = [] :=
  List.filter_eq_nil_iff.mpr fun v hv e => hx ((h.has x).mpr ⟨v, hv, e⟩)
/-- the answer to which measuring is next -/
noncomputable def nextO (r : Rak) (vs : List Int) (ms : List (S × Bool × Int)) : Option Int := if ms = [] ∨ vs = [] then none else (minI (ms.map (wst r vs))).bind fun a => Option.map (fun i : Nat => (i : Int)) (idxI a (ms.map (wst r vs)))
theorem fold_map {α : Type} {f : List Int → α → Out (List Int)} (g : α → Int) {xs : List α} (hl : xs.length ≤ 60) (hf : ∀ x s, x ∈ xs → s.length < 60 → (f s x).yes fun s' => s' = s ++ [g x]) : (Out.fold f xs []).yes fun s => s = xs.map g := by
  refine Out.fold_yes (fun pre (s : List Int) => s = pre.map g) _ _ rfl fun pre x post s hp hI => ?_
  have hpl : xs.length = pre.length + (post.length + 1) := by rw [hp]; simp
  refine Out.yes.mono (hf x s (by rw [hp]; simp) (by rw [hI, List.length_map]; omega)) fun s' h => ?_
  rw [h, hI, List.map_append]; rfl
theorem nextm_is {r : Rak} (hR : RakOk r) {vs : List Int} {ms : List (S × Bool × Int)} (hm : ∀ m, m ∈ ms → MeasOk r m) (h4 : ms.length ≤ 60) (hv : vs.length ≤ 60) (hl : ∀ l, l ∈ vs → 1 ≤ l ∧ l ≤ 300) :
    (m_next_measuring r vs ms).yes fun o => o = nextO r vs ms := by
  unfold m_next_measuring
  rw [vmeas_ok hm, Out.bind_ok, vlen_ok_t hl, Out.bind_ok]
  refine Out.yes_if (fun hc => Out.yes_ok ?_) fun hc => Out.yes_let ?_
  · unfold nextO
    rw [if_pos]
    rw [Bool.or_eq_true, decide_eq_true_eq, decide_eq_true_eq] at hc
    rcases hc with z | z
    · exact .inr (List.length_eq_zero_iff.mp (by omega))
    · exact .inl z
  rw [Bool.or_eq_false_iff, decide_eq_false_iff_not, decide_eq_false_iff_not] at hc
  obtain ⟨c1, h1⟩ := hc
  have h0 : vs ≠ [] := fun z => c1 (by rw [z]; rfl)
  refine Out.yes_bind (fold_map (wst r vs) h4 fun m s hmm hs => ?_) fun s hs => ?_
  · refine Out.yes_bind (parted_yes hR (hm m hmm) hv) fun d hd => ?_
    obtain ⟨v, hv1⟩ := List.exists_mem_of_ne_nil vs h0
    obtain ⟨⟨u, hu⟩, _⟩ := hm m hmm
    have hr := resL_len (ms := if m.2.1 = true then mirL u.marks else u.marks) (l := v - m.2.2) (held_ok hR hu).e0
    obtain ⟨x, hx⟩ := List.exists_mem_of_length_pos (l := measL u m.2.1 m.2.2 v) hr.1
    have hk := (hd.has x).mpr ⟨v, hv1, (hasR_iff hu).mpr hx⟩
    obtain ⟨mx, hmx⟩ := maxI_ex (xs := (d.map (·.2)).map fun x => (x.length : Int)) (by
      rw [List.map_map]; intro z
      rw [List.map_eq_nil_iff] at z
      rw [z] at hk; cases hk)
    obtain ⟨k1, k2⟩ := maxI_spec hmx
    refine Out.yes_get hmx (Out.yes_guard (by show _ < 16777216; omega) (Out.yes_let (Out.yes_ok ?_)))
    have hW : WL r vs m mx := by
      refine ⟨fun y => ?_, ?_⟩
      · by_cases hy : y ∈ keys d
        · refine k2 _ ?_
          rw [List.map_map]
          exact List.mem_map.mpr ⟨_, dget_mem (hd.get hy), rfl⟩
        · rw [hd.zero hy]
          obtain ⟨z, _, rfl⟩ := List.mem_map.mp k1
          simp
      · rw [List.map_map] at k1
        obtain ⟨p, hp1, hp2⟩ := List.mem_map.mp k1
        have hpk : p.1 ∈ keys d := List.mem_map.mpr ⟨p, hp1, rfl⟩
        have hg := dget_of_mem hd.nd (show (p.1, p.2) ∈ d from hp1)
        rw [hd.get hpk] at hg
        exact ⟨p.1, by rw [Option.some.inj hg]; exact hp2.symm⟩
    rw [← hW.eq]
  · subst hs
    obtain ⟨k, hk⟩ := minI_ex (xs := ms.map (wst r vs)) (fun z => h1 (List.map_eq_nil_iff.mp z))
    refine Out.yes_get hk ?_
    obtain ⟨j, hj⟩ := idxI_someS (minI_spec hk).1
    refine Out.yes_get hj (Out.yes_ok ?_)
    unfold nextO
    rw [if_neg (fun z => z.elim h1 h0), hk]
    show _ = (idxI k _).map _
    rw [hj]; rfl
theorem law_true (ns : List Int) (hns : ns.length ≤ 63) : m_law ns = .ok true := by
  apply Out.yes.eq
  unfold m_law
  refine Out.yes_guard hns ?_
  refine Out.yes_bind (Out.loop_yes (fun _ _ => True) (fun _ => False) _ _ trivial fun pre x5 post s3 hp _ => ?_) fun t ht => ?_
  · refine Out.yes_bind (drawn2E_yes (by omega) (by omega) (by omega) (by omega) _) fun r6 ⟨⟨hD, _, _⟩, _, hE⟩ => ?_
    refine Out.yes_bind (rack2_yes hD) fun r7 ⟨hR, hpm⟩ => ?_
    refine Out.yes_bind (law_sizes_yes (by omega) (by omega) _) fun r8 ⟨_, hs1, hs2⟩ => Out.yes_let (Out.yes_let ?_)
    refine Out.yes_bind (next_yes (by omega) (by omega) _) fun r12 h12 => Out.yes_guard (by constructor <;> omega) (Out.yes_guard (by rw [rgI_length]; show _ ≤ 16777216; omega) ?_)
    refine Out.yes_bind (R := fun l : List (S × Bool × Int) × Bh => l.1.length ≤ 4 ∧ ∀ m, m ∈ l.1 → m.1 ∈ keys r6.1 ∧ 0 ≤ m.2.2 ∧ m.2.2 < 30) (Out.yes.mono (Out.compS_yes (fun pre acc (_ : Bh) => acc.length = pre.length ∧ ∀ m, m ∈ acc → m.1 ∈ keys r6.1 ∧ 0 ≤ m.2.2 ∧ m.2.2 < 30) _ _ ⟨rfl, fun x hx => (nomatch hx)⟩ fun pre x post acc s hp hI => ?_) fun l hl => ⟨by rw [hl.1, rgI_length]; omega, hl.2⟩) fun l16 ⟨b1, b2⟩ => Out.yes_let ?_
    · refine Out.yes_bind (Out.yes_nox (law_measuring_yes hD.ne hD.le _)) fun r9 h9 => Out.yes_ok ⟨?_, fun y hy => ?_⟩
      · show (acc ++ [r9.1]).length = _
        rw [List.length_append, List.length_append, hI.1]; rfl
      · rcases List.mem_append.mp hy with z | z
        · exact hI.2 y z
        · rw [List.mem_singleton] at z; subst z; exact h9
    have hM : ∀ m, m ∈ l16.1 → MeasOk r7 m := fun m hm => by
      obtain ⟨m1, m2, m3⟩ := b2 m hm
      obtain ⟨v, _, _, hg⟩ := drawn_get hD hR hpm m1
      exact ⟨⟨_, hg⟩, m2, by omega⟩
    have hK : ∀ m, m ∈ l16.1 → m.1 ∈ keys r6.1 := fun m hm => (b2 m hm).1
    have hv : ∀ l, l ∈ r8.1 → 1 ≤ l ∧ l ≤ 300 := fun l hl => by have := hs1 l hl; omega
    refine Out.yes_bind (fold_map (wst r7 r8.1) (by omega) fun m s hmm hs => ?_) fun s20 hs20 => ?_
    · refine Out.yes_bind (law_parts_yes hD hE hR hpm (hK m hmm) (by omega)) fun d hd => ?_
      have hdl := hd.few
      rw [Out.compS_unit (o := fun x => some ((r8.1.filter (hasR r7 (m, x))).length : Int)) _ _ (fun x hx => by rw [Out.bind_get (hd.get hx)]), Out.bind_ok, List.nil_append, fm_some]
      refine Out.yes_guard (by rw [List.length_map, List.length_map, List.length_singleton]; show _ ≤ 16777216; omega) ?_
      obtain ⟨mx, hmx⟩ := maxI_ex (xs := [(0 : Int)] ++ (d.map (·.1)).map fun x => ((r8.1.filter (hasR r7 (m, x))).length : Int)) (by simp)
      obtain ⟨k1, k2⟩ := maxI_spec hmx
      refine Out.yes_get hmx (Out.yes_guard (by show _ < 16777216; omega) (Out.yes_let (Out.yes_ok ?_)))
      have h00 : 0 ≤ mx := k2 0 (by simp)
      have hall : ∀ y, ((r8.1.filter (hasR r7 (m, y))).length : Int) ≤ mx := fun y => by
        by_cases hy : y ∈ keys d
        · exact k2 _ (List.mem_append_right _ (List.mem_map.mpr ⟨y, hy, rfl⟩))
        · rw [hd.zero hy]; exact h00
      have hW : WL r7 r8.1 m mx := by
        refine ⟨hall, ?_⟩
        rcases List.mem_append.mp k1 with z | z
        · rw [List.mem_singleton] at z
          refine ⟨(0, true), ?_⟩
          have := hall (0, true)
          omega
        · obtain ⟨x, _, e⟩ := List.mem_map.mp z
          exact ⟨x, e.symm⟩
      rw [← hW.eq]
    refine Out.yes_bind (R := fun i => i = nextO r7 r8.1 l16.1) ?_ fun i34 h34 => ?_
    · refine Out.yes_if (fun hc => ?_) fun hc => Out.yes_ok ?_
      · rw [Bool.and_eq_true] at hc
        have h1 : s20 ≠ [] := by simpa using hc.1
        have h2 : r8.1 ≠ [] := by simpa using hc.2
        obtain ⟨k, hk⟩ := minI_ex h1
        obtain ⟨j, hj⟩ := idxI_someS (minI_spec hk).1
        refine Out.yes_get hk (Out.yes_get hj (Out.yes_ok ?_))
        unfold nextO
        rw [← hs20, if_neg (fun z => z.elim (fun q => h1 (by rw [hs20, q]; rfl)) h2), hk]
        show _ = (idxI k _).map _
        rw [hj]; rfl
      · unfold nextO
        rw [if_pos]
        rw [Bool.and_eq_false_iff] at hc
        rcases hc with z | z
        · refine .inl ?_
          have z : s20 = [] := by simpa using z
          rw [hs20] at z
          exact List.map_eq_nil_iff.mp z
        · exact .inr (by simpa using z)
    refine Out.yes_bind (nextm_is hR hM (by omega) (by omega) hv) fun r37 h37 => ?_
    refine Out.yes_guard ⟨by rw [h37, h34], by cases r37 <;> rfl⟩ (Out.yes_ifF rfl ?_)
    refine Out.yes_bind (least_yes hD hE hR hpm 6 r8.1 l16.1 (by omega) hK (by omega) (by omega)) fun w ⟨w0, w1, w2⟩ => ?_
    have hle : w < 99 → w ≤ (l16.1.length : Int) := fun h => by
      have h1 := (w2 w.toNat (by omega)).mp (by omega)
      have h2 := (w2 _ (by omega)).mpr h1.least
      omega
    refine Out.yes_bind (fewest_yes hR hM (by omega) (by omega) hv) fun o ho => ?_
    have ho' : o = if (decide (w < (99 : Int))) = true then some w else none := by
      cases o with
      | none =>
        rw [if_neg]
        intro h
        have h := of_decide_eq_true h
        have h1 := hle h
        have h2 := (w2 w.toNat (by omega)).mp (by omega)
        exact ho w.toNat (by omega) h2
      | some k =>
        obtain ⟨c, rfl, h1, h2, h3⟩ := ho
        have e1 := (w2 c (by omega)).mpr h2
        have e2 : (c : Int) ≤ w := by
          by_cases q : (c : Int) ≤ w
          · exact q
          · exact absurd ((w2 w.toNat (by omega)).mp (by omega)) (h3 w.toNat (by omega))
        rw [if_pos (by simp; omega)]
        congr 1; omega
    exact Out.yes_guard ⟨ho', by cases o <;> rfl⟩ (Out.yes_ifF rfl (Out.yes_ok trivial))
  · cases t with
    | nx s => exact Out.yes_ok rfl
    | rt v => exact ht.elim
local macro_rules | `(tactic| walk_at "vis") => `(tactic| first | exact .inl rfl | exact .inr (.inl rfl) | exact .inr (.inr rfl) | exact .inr rfl)
abbrev ns_Settler : List Str := ["rack_used", "known"]
abbrev fl_Settler (w : World) (C_Ruler : Addr) (C_Rack : Addr) (s : S_Settler) : List Fld := [.sh ((eRak C_Rack C_Ruler) s.rack_used), .mo ((eKd w (eP3 (eT eI) (eT (eP3 eZ eB eI)) eI) eB) s.known)]
structure Clo_Settler (K : PySem.W.Frag) (C : Addr) : Prop where
  cls : Cls K C
  n_rack_used : NoAttr K C "rack_used"
  n_known : NoAttr K C "known"
section
variable {P : Program} {w : World} {K : PySem.W.Frag} {mg : Str → Option Value} {base : Heap} {cx : Nat → Addr} {C_Ruler : Addr} {C_Rack : Addr} {C_Settler : Addr}
/-- _law_mix, as a plain function -/
theorem ok_law_mix {f : Addr} {fd : FuncData} (F : Fun K "_law_mix" "_law_mix" s_law_mix f fd) (B : Bn mg) : FnOk P w K mg base (L2.CX P w) 3 f fd ["_law_script", "_law_seed"] (spD K (FMix m_law_mix)) := by
  refine def_ok F sc_law_mix (fun ds G post px h => ?_) (fun cdv A outer s H E F0 T hr ds G post px h tk hp => ?_)
  · obtain ⟨_, _, _, rfl, _⟩ := h; rfl
  obtain ⟨ns, seed, hlen, rfl, hq⟩ := h
  have nd := sc_law_mix.nd
  refine wb_env [.sh (.scr ns), .sh (.int seed), .no, .no] rfl ?_
  refine wb_cons (ws_set 2 nd rfl (.inl rfl) ?_)
  refine we_var 1 rfl (by walk_at "vis") rfl ?_
  refine ⟨lt_ rfl, _, rfl, ?_⟩
  refine wb_cons (ws_for (is := [3]) hp rfl ?_)
  refine wi_scr ?_
  refine we_var 0 rfl (by walk_at "vis") rfl ?_
  refine ⟨ns, _, rfl, fun k r G' => G' = G ∧ ∃ z, r = [.sh (.scr ns), .sh (.int seed), .sh (.int ((ns.take k).foldl (fun s n => (s * 48271 + n % 2147483629 + 1) % 2147483647) seed)), z], ⟨rfl, .no, rfl⟩, fun k d r3 G3 hk ⟨h1, z, h2⟩ => ?_, fun r3 G3 ⟨h1, z, h2⟩ => ?_⟩
  · subst h1 h2
    obtain ⟨n, hn, rfl⟩ := map_at hk
    refine wg_name 3 nd rfl (.inl rfl) (by decide) (lt_ rfl) ?_
    refine wb_cons (ws_set 2 nd rfl (.inl rfl) ?_)
    refine we_bin ?_
    refine we_t1 (x := "int") (id := "int") rfl B.int bt_int ?_
    refine we_bin ?_
    refine we_bin ?_
    refine we_bin ?_
    refine we_var 2 rfl (by walk_at "vis") rfl ?_
    refine we_int ?_
    refine ⟨_, _, .inl rfl, .inl rfl, ?_⟩
    refine opw_mul (.inr ⟨by decide, by decide⟩) ?_
    refine we_bin ?_
    refine we_t1 (x := "int") (id := "int") rfl B.int bt_int ?_
    refine we_var 3 rfl (by walk_at "vis") rfl ?_
    refine ⟨_, .inl rfl, ?_⟩
    refine c_int ?_
    refine we_int ?_
    refine ⟨_, _, .inl rfl, .inl rfl, ?_⟩
    refine opw_mod (by decide) ?_
    refine ⟨_, _, .inl rfl, .inl rfl, ?_⟩
    refine opw_add ?_
    refine we_int ?_
    refine ⟨_, _, .inl rfl, .inl rfl, ?_⟩
    refine opw_add ?_
    refine ⟨_, .inl rfl, ?_⟩
    refine c_int ?_
    refine we_int ?_
    refine ⟨_, _, .inl rfl, .inl rfl, ?_⟩
    refine opw_mod (by decide) ?_
    refine ⟨lt_ rfl, _, rfl, ?_⟩
    refine wb_nil ⟨rfl, .sh (.int n), ?_⟩
    rw [List.take_add_one, hn]
    show _ = [_, _, Sl.sh (.int (List.foldl _ _ (ns.take k ++ [n]))), _]
    rw [List.foldl_append]
    rfl
  · subst h1 h2
    rw [List.length_map, List.take_length]
    refine wb_cons (ws_ret ?_)
    refine we_open ?_
    refine we_lst ?_
    refine wa_cons ?_
    refine we_var 2 rfl (by walk_at "vis") rfl ?_
    refine ⟨_, _, rfl, ?_⟩
    refine wa_cons ?_
    refine we_open ?_
    refine we_t1 (x := "list") (id := "list") rfl B.list bt_list ?_
    refine we_var 0 rfl (by walk_at "vis") rfl ?_
    refine ⟨_, .inl rfl, ?_⟩
    refine c_listR ?_
    refine ⟨_, rfl, fun g hg => ?_⟩
    refine ⟨_, _, rfl, ?_⟩
    refine wa_cons ?_
    refine we_int ?_
    refine ⟨_, _, rfl, ?_⟩
    refine wa_nil ?_
    refine ⟨lt_ rfl, ?_⟩
    refine ⟨_, rfl, fun b hb => ?_⟩
    have hne : g ≠ b := fun z => by subst z; rw [updG_same] at hb; cases hb
    exact ⟨_, rfl, hq b g hne (by rwa [updG_ne (Ne.symm hne)] at hb) hg⟩
/-- _law_next, as a plain function -/
theorem ok_law_next {f : Addr} {fd : FuncData} (F : Fun K "_law_next" "_law_next" s_law_next f fd) (B : Bn mg) : FnOk P w K mg base (L2.CX P w) 3 f fd ["_law_h", "_law_limit"] (spD K (FBh (A := Int) (R := Int) (fun a => [eI a]) (fun v => .sh (eI v)) (fun a => m_law_next a))) := by
  refine def_ok F sc_law_next (fun ds G post px h => ?_) (fun cdv A outer s H E F0 T hr ds G post px h tk hp => ?_)
  · obtain ⟨_, _, _, _, _, _, rfl, _⟩ := h; rfl
  obtain ⟨m, G0, b, g, ⟨⟨ns, st, ix⟩, hlen⟩, hne, rfl, rfl, h⟩ := h
  unfold m_law_next at h
  dsimp only at h hlen
  obtain ⟨⟨hm0, hm1⟩, h⟩ := Out.gd h
  obtain ⟨cell, hcell, h⟩ := Out.gt h
  have nd := sc_law_next.nd
  refine wb_env [.sh (.adr b), .sh (.int m), .no] rfl ?_
  refine wb_cons (ws_set 2 nd rfl (.inl rfl) ?_)
  refine we_ix (fun _ _ => rfl) ?_
  refine we_bin ?_
  refine we_ix (fun _ _ => rfl) ?_
  refine we_var 0 rfl (by walk_at "vis") rfl ?_
  refine we_int ?_
  refine ⟨_, _, .inr ⟨b, rfl, bxH_b⟩, .inl rfl, ?_⟩
  refine ixw_lst (d := .adr g) rfl ?_
  refine we_lst ?_
  refine wa_cons ?_
  refine we_int ?_
  refine ⟨_, _, rfl, ?_⟩
  refine wa_nil ?_
  refine ⟨lt_ rfl, ?_⟩
  refine ⟨_, _, .inr ⟨g, rfl, bxH_g hne⟩, .inl rfl, ?_⟩
  refine t_cat (f := eI) ns [(0 : Int)] (by show _ ≤ 16777216; simp; omega) ?_
  refine we_bin ?_
  refine we_t1 (x := "int") (id := "int") rfl B.int bt_int ?_
  refine we_ix (fun _ _ => rfl) ?_
  refine we_var 0 rfl (by walk_at "vis") rfl ?_
  refine we_int ?_
  refine ⟨_, _, .inr ⟨b, rfl, bxH_b⟩, .inl rfl, ?_⟩
  refine ixw_lst (d := .int ix) rfl ?_
  refine ⟨_, .inl rfl, ?_⟩
  refine c_int ?_
  refine we_b2 (x := "max") (id := "max") rfl B.max bt_max ?_
  refine we_int ?_
  refine we_b1 (x := "len") (id := "len") rfl B.len bt_len ?_
  refine we_ix (fun _ _ => rfl) ?_
  refine we_var 0 rfl (by walk_at "vis") rfl ?_
  refine we_int ?_
  refine ⟨_, _, .inr ⟨b, rfl, bxH_b⟩, .inl rfl, ?_⟩
  refine ixw_lst (d := .adr g) rfl ?_
  refine ⟨_, .inr ⟨g, rfl, bxH_g hne⟩, ?_⟩
  refine t_len (f := eI) ns ?_
  refine ⟨_, _, .inl rfl, .inl rfl, ?_⟩
  refine c_max2 rfl ?_
  refine ⟨_, _, .inl rfl, .inl rfl, ?_⟩
  refine opw_mod (by split <;> omega) ?_
  refine ⟨_, _, .inl rfl, .inl rfl, ?_⟩
  refine t_ix (f := eI) (xs := ns ++ [0]) (x := cell) hcell ?_
  refine ⟨lt_ rfl, _, rfl, ?_⟩
  refine wb_env [.sh (.adr b), .sh (.int m), .sh (.int cell)] rfl ?_
  refine wb_cons (ws_if ?_)
  refine wt_cmp (nomark _) ?_
  refine we_var 2 rfl (by walk_at "vis") rfl ?_
  refine we_bin ?_
  refine we_int ?_
  refine we_int ?_
  refine ⟨_, _, .inl rfl, .inl rfl, ?_⟩
  refine opw_pow (⟨by decide, by decide, by decide⟩) ?_
  refine ⟨_, _, .inl rfl, .inl rfl, ?_⟩
  refine opw_ge ?_
  refine ⟨_, rfl, fun hd => ?_, fun hd => ?_⟩
  · have hc : 1000000000000000000 ≤ cell := by
      have := of_decide_eq_true hd
      exact this
    rw [if_pos hc] at h
    obtain ⟨j, hj, h⟩ := Out.gt h
    obtain ⟨hpos, h⟩ := Out.gd h
    refine wb_cons (ws_setG ?_)
    refine we_bin ?_
    refine we_var 2 rfl (by walk_at "vis") rfl ?_
    refine we_var 1 rfl (by walk_at "vis") rfl ?_
    refine ⟨_, _, .inl rfl, .inl rfl, ?_⟩
    refine opw_fdivE ⟨hm0, hm1⟩ ?_
    refine ⟨_, _, rfl, ?_⟩
    refine we_ix (fun _ _ => rfl) ?_
    refine we_var 0 rfl (by walk_at "vis") rfl ?_
    refine we_int ?_
    refine ⟨_, _, .inr ⟨b, rfl, bxH_b⟩, .inl rfl, ?_⟩
    refine ixw_lst (d := .adr g) rfl ?_
    refine ⟨g, rfl, ?_⟩
    refine we_bin ?_
    refine we_t1 (x := "int") (id := "int") rfl B.int bt_int ?_
    refine we_ix (fun _ _ => rfl) ?_
    refine we_var 0 rfl (by walk_at "vis") rfl ?_
    refine we_int ?_
    refine ⟨_, _, .inr ⟨b, rfl, bxH_b⟩, .inl rfl, ?_⟩
    refine ixw_lst (d := .int ix) rfl ?_
    refine ⟨_, .inl rfl, ?_⟩
    refine c_int ?_
    refine we_b1 (x := "len") (id := "len") rfl B.len bt_len ?_
    refine we_ix (fun _ _ => rfl) ?_
    refine we_var 0 rfl (by walk_at "vis") rfl ?_
    refine we_int ?_
    refine ⟨_, _, .inr ⟨b, rfl, bxH_b⟩, .inl rfl, ?_⟩
    refine ixw_lst (d := .adr g) rfl ?_
    refine ⟨_, .inr ⟨g, rfl, bxH_g hne⟩, ?_⟩
    refine t_len (f := eI) ns ?_
    refine ⟨_, _, .inl rfl, .inl rfl, ?_⟩
    refine opw_mod hpos ?_
    refine ⟨ix % ((ns.length : Nat) : Int), _, j, rfl, bxH_g hne, (by rw [List.length_map]; exact hj), ?_⟩
    dsimp only
    rw [show (ns.map D.int).set j (D.int (cell / m)) = (ns.set j (cell / m)).map D.int from by rw [List.map_set], bxH_setG (by rw [List.length_set]; exact hlen) hne]
    refine wb_cons (ws_ret ?_)
    refine we_bin ?_
    refine we_t1 (x := "int") (id := "int") rfl B.int bt_int ?_
    refine we_var 2 rfl (by walk_at "vis") rfl ?_
    refine ⟨_, .inl rfl, ?_⟩
    refine c_int ?_
    refine we_var 1 rfl (by walk_at "vis") rfl ?_
    refine ⟨_, _, .inl rfl, .inl rfl, ?_⟩
    refine opw_mod hm0 ?_
    exact ⟨_, rfl, h⟩
  · have hc : ¬ 1000000000000000000 ≤ cell := by
      have := of_decide_eq_false hd
      exact this
    rw [if_neg hc] at h
    refine wb_nil ?_
    refine wb_cons (ws_setG ?_)
    refine we_bin ?_
    refine we_t1 (x := "int") (id := "int") rfl B.int bt_int ?_
    refine we_bin ?_
    refine we_bin ?_
    refine we_bin ?_
    refine we_ix (fun _ _ => rfl) ?_
    refine we_var 0 rfl (by walk_at "vis") rfl ?_
    refine we_int ?_
    refine ⟨_, _, .inr ⟨b, rfl, bxH_b⟩, .inl rfl, ?_⟩
    refine ixw_lst (d := .int st) rfl ?_
    refine we_int ?_
    refine ⟨_, _, .inl rfl, .inl rfl, ?_⟩
    refine opw_mul (.inr ⟨by decide, by decide⟩) ?_
    refine we_bin ?_
    refine we_var 2 rfl (by walk_at "vis") rfl ?_
    refine we_int ?_
    refine ⟨_, _, .inl rfl, .inl rfl, ?_⟩
    refine opw_mul (.inr ⟨by decide, by decide⟩) ?_
    refine ⟨_, _, .inl rfl, .inl rfl, ?_⟩
    refine opw_add ?_
    refine we_int ?_
    refine ⟨_, _, .inl rfl, .inl rfl, ?_⟩
    refine opw_add ?_
    refine ⟨_, .inl rfl, ?_⟩
    refine c_int ?_
    refine we_int ?_
    refine ⟨_, _, .inl rfl, .inl rfl, ?_⟩
    refine opw_mod (by decide) ?_
    refine ⟨_, _, rfl, ?_⟩
    refine we_var 0 rfl (by walk_at "vis") rfl ?_
    refine ⟨b, rfl, ?_⟩
    refine we_int ?_
    refine ⟨0, _, 0, rfl, bxH_b, rfl, ?_⟩
    dsimp only
    rw [show ([D.int st, D.adr g, D.int ix].set 0 (D.int ((st * 48271 + cell * 69621 + 11) % 2147483647))) = [D.int ((st * 48271 + cell * 69621 + 11) % 2147483647), D.adr g, D.int ix] from rfl, bxH_setB]
    refine wb_cons (ws_setG ?_)
    refine we_bin ?_
    refine we_ix (fun _ _ => rfl) ?_
    refine we_var 0 rfl (by walk_at "vis") rfl ?_
    refine we_int ?_
    refine ⟨_, _, .inr ⟨b, rfl, bxH_b⟩, .inl rfl, ?_⟩
    refine ixw_lst (d := .int ix) rfl ?_
    refine we_int ?_
    refine ⟨_, _, .inl rfl, .inl rfl, ?_⟩
    refine opw_add ?_
    refine ⟨_, _, rfl, ?_⟩
    refine we_var 0 rfl (by walk_at "vis") rfl ?_
    refine ⟨b, rfl, ?_⟩
    refine we_int ?_
    refine ⟨2, _, 2, rfl, bxH_b, rfl, ?_⟩
    dsimp only
    rw [show ([D.int ((st * 48271 + cell * 69621 + 11) % 2147483647), D.adr g, D.int ix].set 2 (D.int (ix + 1))) = [D.int ((st * 48271 + cell * 69621 + 11) % 2147483647), D.adr g, D.int (ix + 1)] from rfl, bxH_setB]
    refine wb_cons (ws_ret ?_)
    refine we_bin ?_
    refine we_t1 (x := "int") (id := "int") rfl B.int bt_int ?_
    refine we_bin ?_
    refine we_ix (fun _ _ => rfl) ?_
    refine we_var 0 rfl (by walk_at "vis") rfl ?_
    refine we_int ?_
    refine ⟨_, _, .inr ⟨b, rfl, bxH_b⟩, .inl rfl, ?_⟩
    refine ixw_lst (d := .int ((st * 48271 + cell * 69621 + 11) % 2147483647)) rfl ?_
    refine we_int ?_
    refine ⟨_, _, .inl rfl, .inl rfl, ?_⟩
    refine opw_fdiv ⟨by decide, by decide⟩ ?_
    refine ⟨_, .inl rfl, ?_⟩
    refine c_int ?_
    refine we_var 1 rfl (by walk_at "vis") rfl ?_
    refine ⟨_, _, .inl rfl, .inl rfl, ?_⟩
    refine opw_mod hm0 ?_
    exact ⟨_, rfl, h⟩
theorem ok_law_alike {f : Addr} {fd : FuncData} {k n : Nat} (F : Fun K "_law_alike" "_law_alike" s_law_alike f fd) (B : Bn mg) (c_law_alike : 0 < n → Cal P w K mg base "_law_alike" k ["_law_found", "_law_due"] (alikeF (n - 1))) : FnOk P w K mg base (L2.CX P w) (k + 1) f fd ["_law_found", "_law_due"] (spD K (alikeF n)) := by
  refine def_ok F sc_law_alike (fun ds G post px h => ?_) (fun cdv A outer s H E F0 T hr ds G post px h tk hp => ?_)
  · obtain ⟨d, rfl, _⟩ := h; rfl
  obtain ⟨d, rfl, hok, hq⟩ := h
  have nd := sc_law_alike.nd
  refine wb_env [.sh d, .sh d, .no] rfl ?_
  cases d with
  | non =>
    refine wb_cons (ws_if ?_)
    refine wt_val (fun _ => rfl) ?_
    refine we_isi rfl B.isinstance bt_isinstance rfl B.dict bt_dict ?_
    refine we_var 1 rfl (by walk_at "vis") rfl ?_
    refine ⟨_, _, _, .inl rfl, rfl, kt_NoneType_dict, ?_⟩
    refine ⟨_, rfl, fun hd => absurd (show false = true from hd) Bool.false_ne_true, fun _ => ?_⟩
    refine wb_nil ?_
    refine wb_cons (ws_if ?_)
    refine wt_val (fun _ => rfl) ?_
    refine we_isiT rfl B.isinstance bt_isinstance rfl B.tuple bt_tuple rfl B.list bt_list ?_
    refine we_var 1 rfl (by walk_at "vis") rfl ?_
    refine ⟨_, _, false, rfl, rfl, by unfold PySem.W.kitAny; rw [kt_NoneType_tuple]; unfold PySem.W.kitAny; rw [kt_NoneType_list]; rfl, ?_⟩
    refine ⟨_, rfl, fun hd => absurd (show false = true from hd) Bool.false_ne_true, fun _ => ?_⟩
    refine wb_nil ?_
    refine wb_cons (ws_if ?_)
    refine wt_w (ww_or ?_)
    refine wt_cmp (nomark _) ?_
    refine we_var 1 rfl (by walk_at "vis") rfl ?_
    refine we_non ?_
    refine ⟨_, _, .inl rfl, .inl rfl, ?_⟩
    refine opw_isN ?_
    refine ⟨_, rfl, fun hd => absurd (show true = false from hd) (by decide), fun _ => ?_⟩
    refine ⟨fun _ => ?_, fun hd => absurd (show true = false from hd) (by decide)⟩
    refine wb_cons (ws_ret ?_)
    refine we_and ?_
    refine we_cmp (nomark _) ?_
    refine we_var 0 rfl (by walk_at "vis") rfl ?_
    refine we_var 1 rfl (by walk_at "vis") rfl ?_
    refine ⟨_, _, .inl rfl, .inl rfl, ?_⟩
    refine opw_eqD (n := 0) hr.units trivial trivial (by decide) ?_
    refine ⟨_, rfl, fun _ => ?_, fun hc => absurd hc (by decide)⟩
    refine we_one ?_
    refine we_cmp (nomark _) ?_
    refine we_isi rfl B.isinstance bt_isinstance rfl B.str bt_str ?_
    refine we_var 0 rfl (by walk_at "vis") rfl ?_
    refine ⟨_, _, _, .inl rfl, rfl, kt_NoneType_str, ?_⟩
    refine we_isi rfl B.isinstance bt_isinstance rfl B.str bt_str ?_
    refine we_var 1 rfl (by walk_at "vis") rfl ?_
    refine ⟨_, _, _, .inl rfl, rfl, kt_NoneType_str, ?_⟩
    refine ⟨_, _, .inl rfl, .inl rfl, ?_⟩
    refine opw_eqB ?_
    exact ⟨_, rfl, hq⟩
  | bl b =>
    refine wb_cons (ws_if ?_)
    refine wt_val (fun _ => rfl) ?_
    refine we_isi rfl B.isinstance bt_isinstance rfl B.dict bt_dict ?_
    refine we_var 1 rfl (by walk_at "vis") rfl ?_
    refine ⟨_, _, _, .inl rfl, rfl, kt_bool_dict, ?_⟩
    refine ⟨_, rfl, fun hd => absurd (show false = true from hd) Bool.false_ne_true, fun _ => ?_⟩
    refine wb_nil ?_
    refine wb_cons (ws_if ?_)
    refine wt_val (fun _ => rfl) ?_
    refine we_isiT rfl B.isinstance bt_isinstance rfl B.tuple bt_tuple rfl B.list bt_list ?_
    refine we_var 1 rfl (by walk_at "vis") rfl ?_
    refine ⟨_, _, false, rfl, rfl, by unfold PySem.W.kitAny; rw [kt_bool_tuple]; unfold PySem.W.kitAny; rw [kt_bool_list]; rfl, ?_⟩
    refine ⟨_, rfl, fun hd => absurd (show false = true from hd) Bool.false_ne_true, fun _ => ?_⟩
    refine wb_nil ?_
    refine wb_cons (ws_if ?_)
    refine wt_w (ww_or ?_)
    refine wt_cmp (nomark _) ?_
    refine we_var 1 rfl (by walk_at "vis") rfl ?_
    refine we_non ?_
    refine ⟨_, _, .inl rfl, .inl rfl, ?_⟩
    refine opw_isN ?_
    refine ⟨_, rfl, fun _ => ?_, fun hd => absurd (show false = true from hd) Bool.false_ne_true⟩
    refine ww_or1 ?_
    refine wt_val (fun _ => rfl) ?_
    refine we_isi rfl B.isinstance bt_isinstance rfl B.str bt_str ?_
    refine we_var 1 rfl (by walk_at "vis") rfl ?_
    refine ⟨_, _, _, .inl rfl, rfl, kt_bool_str, ?_⟩
    refine ⟨_, rfl, fun hd => absurd (show false = true from hd) Bool.false_ne_true, fun _ => ?_⟩
    refine wb_nil ?_
    refine wb_cons (ws_ret ?_)
    refine we_and ?_
    refine we_isi rfl B.isinstance bt_isinstance rfl B.int bt_int ?_
    refine we_var 0 rfl (by walk_at "vis") rfl ?_
    refine ⟨_, _, _, .inl rfl, rfl, kt_bool_int, ?_⟩
    refine ⟨_, rfl, fun _ => ?_, fun hc => absurd hc (by decide)⟩
    refine we_and ?_
    refine we_cmp (nomark _) ?_
    refine we_isi rfl B.isinstance bt_isinstance rfl B.bool bt_bool ?_
    refine we_var 0 rfl (by walk_at "vis") rfl ?_
    refine ⟨_, _, _, .inl rfl, rfl, kt_bool_bool, ?_⟩
    refine we_isi rfl B.isinstance bt_isinstance rfl B.bool bt_bool ?_
    refine we_var 1 rfl (by walk_at "vis") rfl ?_
    refine ⟨_, _, _, .inl rfl, rfl, kt_bool_bool, ?_⟩
    refine ⟨_, _, .inl rfl, .inl rfl, ?_⟩
    refine opw_eqB ?_
    refine ⟨_, rfl, fun _ => ?_, fun hc => absurd hc (by decide)⟩
    refine we_one ?_
    refine we_cmp (nomark _) ?_
    refine we_var 0 rfl (by walk_at "vis") rfl ?_
    refine we_var 1 rfl (by walk_at "vis") rfl ?_
    refine ⟨_, _, .inl rfl, .inl rfl, ?_⟩
    refine opw_eqB ?_
    refine ⟨_, rfl, ?_⟩
    rw [beq_self_eq_true]
    exact hq
  | int i =>
    refine wb_cons (ws_if ?_)
    refine wt_val (fun _ => rfl) ?_
    refine we_isi rfl B.isinstance bt_isinstance rfl B.dict bt_dict ?_
    refine we_var 1 rfl (by walk_at "vis") rfl ?_
    refine ⟨_, _, _, .inl rfl, rfl, kt_int_dict, ?_⟩
    refine ⟨_, rfl, fun hd => absurd (show false = true from hd) Bool.false_ne_true, fun _ => ?_⟩
    refine wb_nil ?_
    refine wb_cons (ws_if ?_)
    refine wt_val (fun _ => rfl) ?_
    refine we_isiT rfl B.isinstance bt_isinstance rfl B.tuple bt_tuple rfl B.list bt_list ?_
    refine we_var 1 rfl (by walk_at "vis") rfl ?_
    refine ⟨_, _, false, rfl, rfl, by unfold PySem.W.kitAny; rw [kt_int_tuple]; unfold PySem.W.kitAny; rw [kt_int_list]; rfl, ?_⟩
    refine ⟨_, rfl, fun hd => absurd (show false = true from hd) Bool.false_ne_true, fun _ => ?_⟩
    refine wb_nil ?_
    refine wb_cons (ws_if ?_)
    refine wt_w (ww_or ?_)
    refine wt_cmp (nomark _) ?_
    refine we_var 1 rfl (by walk_at "vis") rfl ?_
    refine we_non ?_
    refine ⟨_, _, .inl rfl, .inl rfl, ?_⟩
    refine opw_isN ?_
    refine ⟨_, rfl, fun _ => ?_, fun hd => absurd (show false = true from hd) Bool.false_ne_true⟩
    refine ww_or1 ?_
    refine wt_val (fun _ => rfl) ?_
    refine we_isi rfl B.isinstance bt_isinstance rfl B.str bt_str ?_
    refine we_var 1 rfl (by walk_at "vis") rfl ?_
    refine ⟨_, _, _, .inl rfl, rfl, kt_int_str, ?_⟩
    refine ⟨_, rfl, fun hd => absurd (show false = true from hd) Bool.false_ne_true, fun _ => ?_⟩
    refine wb_nil ?_
    refine wb_cons (ws_ret ?_)
    refine we_and ?_
    refine we_isi rfl B.isinstance bt_isinstance rfl B.int bt_int ?_
    refine we_var 0 rfl (by walk_at "vis") rfl ?_
    refine ⟨_, _, _, .inl rfl, rfl, kt_int_int, ?_⟩
    refine ⟨_, rfl, fun _ => ?_, fun hc => absurd hc (by decide)⟩
    refine we_and ?_
    refine we_cmp (nomark _) ?_
    refine we_isi rfl B.isinstance bt_isinstance rfl B.bool bt_bool ?_
    refine we_var 0 rfl (by walk_at "vis") rfl ?_
    refine ⟨_, _, _, .inl rfl, rfl, kt_int_bool, ?_⟩
    refine we_isi rfl B.isinstance bt_isinstance rfl B.bool bt_bool ?_
    refine we_var 1 rfl (by walk_at "vis") rfl ?_
    refine ⟨_, _, _, .inl rfl, rfl, kt_int_bool, ?_⟩
    refine ⟨_, _, .inl rfl, .inl rfl, ?_⟩
    refine opw_eqB ?_
    refine ⟨_, rfl, fun _ => ?_, fun hc => absurd hc (by decide)⟩
    refine we_one ?_
    refine we_cmp (nomark _) ?_
    refine we_var 0 rfl (by walk_at "vis") rfl ?_
    refine we_var 1 rfl (by walk_at "vis") rfl ?_
    refine ⟨_, _, .inl rfl, .inl rfl, ?_⟩
    refine opw_eqI ?_
    refine ⟨_, rfl, ?_⟩
    rw [decide_eq_true rfl]
    exact hq
  | str x =>
    refine wb_cons (ws_if ?_)
    refine wt_val (fun _ => rfl) ?_
    refine we_isi rfl B.isinstance bt_isinstance rfl B.dict bt_dict ?_
    refine we_var 1 rfl (by walk_at "vis") rfl ?_
    refine ⟨_, _, _, .inl rfl, rfl, kt_str_dict, ?_⟩
    refine ⟨_, rfl, fun hd => absurd (show false = true from hd) Bool.false_ne_true, fun _ => ?_⟩
    refine wb_nil ?_
    refine wb_cons (ws_if ?_)
    refine wt_val (fun _ => rfl) ?_
    refine we_isiT rfl B.isinstance bt_isinstance rfl B.tuple bt_tuple rfl B.list bt_list ?_
    refine we_var 1 rfl (by walk_at "vis") rfl ?_
    refine ⟨_, _, false, rfl, rfl, by unfold PySem.W.kitAny; rw [kt_str_tuple]; unfold PySem.W.kitAny; rw [kt_str_list]; rfl, ?_⟩
    refine ⟨_, rfl, fun hd => absurd (show false = true from hd) Bool.false_ne_true, fun _ => ?_⟩
    refine wb_nil ?_
    refine wb_cons (ws_if ?_)
    refine wt_w (ww_or ?_)
    refine wt_cmp (nomark _) ?_
    refine we_var 1 rfl (by walk_at "vis") rfl ?_
    refine we_non ?_
    refine ⟨_, _, .inl rfl, .inl rfl, ?_⟩
    refine opw_isN ?_
    refine ⟨_, rfl, fun _ => ?_, fun hd => absurd (show false = true from hd) Bool.false_ne_true⟩
    refine ww_or1 ?_
    refine wt_val (fun _ => rfl) ?_
    refine we_isi rfl B.isinstance bt_isinstance rfl B.str bt_str ?_
    refine we_var 1 rfl (by walk_at "vis") rfl ?_
    refine ⟨_, _, _, .inl rfl, rfl, kt_str_str, ?_⟩
    refine ⟨_, rfl, fun _ => ?_, fun hd => absurd (show true = false from hd) (by decide)⟩
    refine wb_cons (ws_ret ?_)
    refine we_and ?_
    refine we_cmp (nomark _) ?_
    refine we_var 0 rfl (by walk_at "vis") rfl ?_
    refine we_var 1 rfl (by walk_at "vis") rfl ?_
    refine ⟨_, _, .inl rfl, .inl rfl, ?_⟩
    refine opw_eqS ?_
    refine ⟨_, rfl, ?_, ?_⟩
    rotate_left
    · intro hc; rw [decide_eq_true rfl] at hc; exact absurd hc (by decide)
    intro _
    refine we_one ?_
    refine we_cmp (nomark _) ?_
    refine we_isi rfl B.isinstance bt_isinstance rfl B.str bt_str ?_
    refine we_var 0 rfl (by walk_at "vis") rfl ?_
    refine ⟨_, _, _, .inl rfl, rfl, kt_str_str, ?_⟩
    refine we_isi rfl B.isinstance bt_isinstance rfl B.str bt_str ?_
    refine we_var 1 rfl (by walk_at "vis") rfl ?_
    refine ⟨_, _, _, .inl rfl, rfl, kt_str_str, ?_⟩
    refine ⟨_, _, .inl rfl, .inl rfl, ?_⟩
    refine opw_eqB ?_
    exact ⟨_, rfl, hq⟩
  | tup ds =>
    cases n with
    | zero => exact absurd (show false = true from hok) Bool.false_ne_true
    | succ n =>
    replace c_law_alike := c_law_alike (Nat.succ_pos n)
    replace hok : ds.length ≤ LIM ∧ ∀ d ∈ ds, alB n d = true := by have h2 : (decide (ds.length ≤ LIM) && ds.all (alB n)) = true := hok; rw [Bool.and_eq_true, decide_eq_true_eq, List.all_eq_true] at h2; exact h2
    have hlim : ds.length ≤ LIM := hok.1
    have hlim2 : (ds.length : Int) ≤ 16777216 := by have := hlim; unfold LIM at this; omega
    refine wb_cons (ws_if ?_)
    refine wt_val (fun _ => rfl) ?_
    refine we_isi rfl B.isinstance bt_isinstance rfl B.dict bt_dict ?_
    refine we_var 1 rfl (by walk_at "vis") rfl ?_
    refine ⟨_, _, _, .inl rfl, rfl, kt_tuple_dict, ?_⟩
    refine ⟨_, rfl, fun hd => absurd (show false = true from hd) Bool.false_ne_true, fun _ => ?_⟩
    refine wb_nil ?_
    refine wb_cons (ws_if ?_)
    refine wt_val (fun _ => rfl) ?_
    refine we_isiT rfl B.isinstance bt_isinstance rfl B.tuple bt_tuple rfl B.list bt_list ?_
    refine we_var 1 rfl (by walk_at "vis") rfl ?_
    refine ⟨_, _, true, rfl, rfl, by unfold PySem.W.kitAny; rw [kt_tuple_tuple], ?_⟩
    refine ⟨_, rfl, fun _ => ?_, fun hd => absurd (show true = false from hd) (by decide)⟩
    refine wb_cons (ws_if ?_)
    refine wt_w (ww_or ?_)
    refine wt_not ?_
    refine wt_val (fun _ => rfl) ?_
    refine we_isiT rfl B.isinstance bt_isinstance rfl B.tuple bt_tuple rfl B.list bt_list ?_
    refine we_var 0 rfl (by walk_at "vis") rfl ?_
    refine ⟨_, _, true, rfl, rfl, by unfold PySem.W.kitAny; rw [kt_tuple_tuple], ?_⟩
    refine ⟨_, rfl, ?_⟩
    refine ⟨fun _ => ?_, fun hd => absurd (show false = true from hd) Bool.false_ne_true⟩
    refine ww_or1 ?_
    refine wt_cmp (nomark _) ?_
    refine we_isi rfl B.isinstance bt_isinstance rfl B.list bt_list ?_
    refine we_var 0 rfl (by walk_at "vis") rfl ?_
    refine ⟨_, _, _, .inl rfl, rfl, kt_tuple_list, ?_⟩
    refine we_isi rfl B.isinstance bt_isinstance rfl B.list bt_list ?_
    refine we_var 1 rfl (by walk_at "vis") rfl ?_
    refine ⟨_, _, _, .inl rfl, rfl, kt_tuple_list, ?_⟩
    refine ⟨_, _, .inl rfl, .inl rfl, ?_⟩
    refine opw_neB ?_
    refine ⟨_, rfl, fun hd => absurd (show false = true from hd) Bool.false_ne_true, fun _ => ?_⟩
    refine wb_nil ?_
    refine wb_cons (ws_if ?_)
    refine wt_cmp (nomark _) ?_
    refine we_b1 (x := "len") (id := "len") rfl B.len bt_len ?_
    refine we_var 0 rfl (by walk_at "vis") rfl ?_
    refine ⟨_, .inl rfl, ?_⟩
    refine c_lenT ?_
    refine we_b1 (x := "len") (id := "len") rfl B.len bt_len ?_
    refine we_var 1 rfl (by walk_at "vis") rfl ?_
    refine ⟨_, .inl rfl, ?_⟩
    refine c_lenT ?_
    refine ⟨_, _, .inl rfl, .inl rfl, ?_⟩
    refine opw_neI ?_
    refine ⟨_, rfl, fun hd => absurd hd (by simp), fun _ => ?_⟩
    refine wb_nil ?_
    refine wb_cons (ws_ret ?_)
    refine we_cmp (nomark _) ?_
    refine we_lcQ [("_law_k", 2)] rfl nd (blkOk_by (by rfl)) (lcS_preP (γ := List Int) (σT := Unit) [("_law_k", 2)] [.sh (.tup ds), .sh (.tup ds), .no] (fun _ => G) (en := eI) eI ?_)
    refine wi_rng1 rfl B.range ?_
    refine we_b1 (x := "len") (id := "len") rfl B.len bt_len ?_
    refine we_var 1 rfl (by walk_at "vis") rfl ?_
    refine ⟨_, .inl rfl, ?_⟩
    refine c_lenT ?_
    refine ⟨_, rfl, ⟨by omega, by omega⟩, ?_⟩
    refine ⟨rgI 0 (ds.length : Int), (), fun _ x => if 0 ≤ x ∧ x < (ds.length : Int) then .ok (none, ()) else .no, fun q => .ok q.1, fun l => l = [], fun _ => False, rfl, by rw [rgI_length]; have := hlim; omega, Wk.refl _, rfl, ?_, fun s x Q' h => ?_, fun q h => ?_⟩
    · have e : Out.compS (fun (_ : Unit) (x : Int) => if 0 ≤ x ∧ x < (ds.length : Int) then (.ok (none, ()) : Out (Option Int × Unit)) else .no) (rgI 0 (ds.length : Int)) [] () = .ok ([], ()) := compS_none _ _ fun x hx => by rw [mem_rgI] at hx; exact if_pos hx
      rw [e]
      exact rfl
    · by_cases hx : 0 ≤ x ∧ x < (ds.length : Int)
      · dsimp only at h
        rw [if_pos hx] at h
        obtain ⟨j, rfl⟩ := Int.eq_ofNat_of_zero_le hx.1
        have hj2 : j < ds.length := by omega
        have hjd : ds[j]? = some ds[j] := List.getElem?_eq_getElem hj2
        rintro Y ⟨s1, H1, C1, cl, fp, rfl⟩
        refine wg_name 2 nd rfl (by walk_at "vis") (by decide) (lt_ rfl) ?_
        rintro Y ⟨s1, H1, C1, cl, fp, rfl⟩
        refine wt_not ?_
        refine wt_val (fun _ => rfl) ?_
        refine we_cal (BlkX.tk ⟨_, _, _, _, _, rfl⟩) c_law_alike hr rfl ?_
        refine wa_cons ?_
        refine we_ix (fun _ _ => rfl) ?_
        refine we_var 0 rfl (by walk_at "vis") rfl ?_
        refine we_var 2 rfl (by walk_at "vis") rfl ?_
        refine ⟨_, _, .inl rfl, .inl rfl, ?_⟩
        refine ixw_tup (atD_nat hjd) ?_
        refine ⟨_, _, rfl, ?_⟩
        refine wa_cons ?_
        refine we_ix (fun _ _ => rfl) ?_
        refine we_var 1 rfl (by walk_at "vis") rfl ?_
        refine we_var 2 rfl (by walk_at "vis") rfl ?_
        refine ⟨_, _, .inl rfl, .inl rfl, ?_⟩
        refine ixw_tup (atD_nat hjd) ?_
        refine ⟨_, _, rfl, ?_⟩
        refine wa_nil ?_
        refine ⟨ds[j], rfl, hok.2 _ (List.getElem_mem hj2), ?_⟩
        refine ⟨_, rfl, ?_⟩
        exact ⟨fun hd => absurd (show false = true from hd) Bool.false_ne_true, fun _ => ⟨(), Wk.refl _, rfl, h⟩⟩
      · dsimp only at h; rw [if_neg hx] at h; exact h.elim
    · have hq1 : q.1 = [] := h
      rw [hq1]
      refine we_lst ?_
      refine wa_nil ?_
      refine ⟨by decide, ?_⟩
      refine ⟨_, _, .inl rfl, .inl rfl, ?_⟩
      refine opw_eqC (eqc_lst eqc_int) hr.units ([] : List Int) [] ?_
      exact ⟨_, rfl, hq⟩
  | lst ds =>
    cases n with
    | zero => exact absurd (show false = true from hok) Bool.false_ne_true
    | succ n =>
    replace c_law_alike := c_law_alike (Nat.succ_pos n)
    replace hok : ds.length ≤ LIM ∧ ∀ d ∈ ds, alB n d = true := by have h2 : (decide (ds.length ≤ LIM) && ds.all (alB n)) = true := hok; rw [Bool.and_eq_true, decide_eq_true_eq, List.all_eq_true] at h2; exact h2
    have hlim : ds.length ≤ LIM := hok.1
    have hlim2 : (ds.length : Int) ≤ 16777216 := by have := hlim; unfold LIM at this; omega
    refine wb_cons (ws_if ?_)
    refine wt_val (fun _ => rfl) ?_
    refine we_isi rfl B.isinstance bt_isinstance rfl B.dict bt_dict ?_
    refine we_var 1 rfl (by walk_at "vis") rfl ?_
    refine ⟨_, _, _, .inl rfl, rfl, kt_list_dict, ?_⟩
    refine ⟨_, rfl, fun hd => absurd (show false = true from hd) Bool.false_ne_true, fun _ => ?_⟩
    refine wb_nil ?_
    refine wb_cons (ws_if ?_)
    refine wt_val (fun _ => rfl) ?_
    refine we_isiT rfl B.isinstance bt_isinstance rfl B.tuple bt_tuple rfl B.list bt_list ?_
    refine we_var 1 rfl (by walk_at "vis") rfl ?_
    refine ⟨_, _, true, rfl, rfl, by unfold PySem.W.kitAny; rw [kt_list_tuple]; unfold PySem.W.kitAny; rw [kt_list_list], ?_⟩
    refine ⟨_, rfl, fun _ => ?_, fun hd => absurd (show true = false from hd) (by decide)⟩
    refine wb_cons (ws_if ?_)
    refine wt_w (ww_or ?_)
    refine wt_not ?_
    refine wt_val (fun _ => rfl) ?_
    refine we_isiT rfl B.isinstance bt_isinstance rfl B.tuple bt_tuple rfl B.list bt_list ?_
    refine we_var 0 rfl (by walk_at "vis") rfl ?_
    refine ⟨_, _, true, rfl, rfl, by unfold PySem.W.kitAny; rw [kt_list_tuple]; unfold PySem.W.kitAny; rw [kt_list_list], ?_⟩
    refine ⟨_, rfl, ?_⟩
    refine ⟨fun _ => ?_, fun hd => absurd (show false = true from hd) Bool.false_ne_true⟩
    refine ww_or1 ?_
    refine wt_cmp (nomark _) ?_
    refine we_isi rfl B.isinstance bt_isinstance rfl B.list bt_list ?_
    refine we_var 0 rfl (by walk_at "vis") rfl ?_
    refine ⟨_, _, _, .inl rfl, rfl, kt_list_list, ?_⟩
    refine we_isi rfl B.isinstance bt_isinstance rfl B.list bt_list ?_
    refine we_var 1 rfl (by walk_at "vis") rfl ?_
    refine ⟨_, _, _, .inl rfl, rfl, kt_list_list, ?_⟩
    refine ⟨_, _, .inl rfl, .inl rfl, ?_⟩
    refine opw_neB ?_
    refine ⟨_, rfl, fun hd => absurd (show false = true from hd) Bool.false_ne_true, fun _ => ?_⟩
    refine wb_nil ?_
    refine wb_cons (ws_if ?_)
    refine wt_cmp (nomark _) ?_
    refine we_b1 (x := "len") (id := "len") rfl B.len bt_len ?_
    refine we_var 0 rfl (by walk_at "vis") rfl ?_
    refine ⟨_, .inl rfl, ?_⟩
    refine c_len ?_
    refine we_b1 (x := "len") (id := "len") rfl B.len bt_len ?_
    refine we_var 1 rfl (by walk_at "vis") rfl ?_
    refine ⟨_, .inl rfl, ?_⟩
    refine c_len ?_
    refine ⟨_, _, .inl rfl, .inl rfl, ?_⟩
    refine opw_neI ?_
    refine ⟨_, rfl, fun hd => absurd hd (by simp), fun _ => ?_⟩
    refine wb_nil ?_
    refine wb_cons (ws_ret ?_)
    refine we_cmp (nomark _) ?_
    refine we_lcQ [("_law_k", 2)] rfl nd (blkOk_by (by rfl)) (lcS_preP (γ := List Int) (σT := Unit) [("_law_k", 2)] [.sh (.lst ds), .sh (.lst ds), .no] (fun _ => G) (en := eI) eI ?_)
    refine wi_rng1 rfl B.range ?_
    refine we_b1 (x := "len") (id := "len") rfl B.len bt_len ?_
    refine we_var 1 rfl (by walk_at "vis") rfl ?_
    refine ⟨_, .inl rfl, ?_⟩
    refine c_len ?_
    refine ⟨_, rfl, ⟨by omega, by omega⟩, ?_⟩
    refine ⟨rgI 0 (ds.length : Int), (), fun _ x => if 0 ≤ x ∧ x < (ds.length : Int) then .ok (none, ()) else .no, fun q => .ok q.1, fun l => l = [], fun _ => False, rfl, by rw [rgI_length]; have := hlim; omega, Wk.refl _, rfl, ?_, fun s x Q' h => ?_, fun q h => ?_⟩
    · have e : Out.compS (fun (_ : Unit) (x : Int) => if 0 ≤ x ∧ x < (ds.length : Int) then (.ok (none, ()) : Out (Option Int × Unit)) else .no) (rgI 0 (ds.length : Int)) [] () = .ok ([], ()) := compS_none _ _ fun x hx => by rw [mem_rgI] at hx; exact if_pos hx
      rw [e]
      exact rfl
    · by_cases hx : 0 ≤ x ∧ x < (ds.length : Int)
      · dsimp only at h
        rw [if_pos hx] at h
        obtain ⟨j, rfl⟩ := Int.eq_ofNat_of_zero_le hx.1
        have hj2 : j < ds.length := by omega
        have hjd : ds[j]? = some ds[j] := List.getElem?_eq_getElem hj2
        rintro Y ⟨s1, H1, C1, cl, fp, rfl⟩
        refine wg_name 2 nd rfl (by walk_at "vis") (by decide) (lt_ rfl) ?_
        rintro Y ⟨s1, H1, C1, cl, fp, rfl⟩
        refine wt_not ?_
        refine wt_val (fun _ => rfl) ?_
        refine we_cal (BlkX.tk ⟨_, _, _, _, _, rfl⟩) c_law_alike hr rfl ?_
        refine wa_cons ?_
        refine we_ix (fun _ _ => rfl) ?_
        refine we_var 0 rfl (by walk_at "vis") rfl ?_
        refine we_var 2 rfl (by walk_at "vis") rfl ?_
        refine ⟨_, _, .inl rfl, .inl rfl, ?_⟩
        refine ixw_lst (atD_nat hjd) ?_
        refine ⟨_, _, rfl, ?_⟩
        refine wa_cons ?_
        refine we_ix (fun _ _ => rfl) ?_
        refine we_var 1 rfl (by walk_at "vis") rfl ?_
        refine we_var 2 rfl (by walk_at "vis") rfl ?_
        refine ⟨_, _, .inl rfl, .inl rfl, ?_⟩
        refine ixw_lst (atD_nat hjd) ?_
        refine ⟨_, _, rfl, ?_⟩
        refine wa_nil ?_
        refine ⟨ds[j], rfl, hok.2 _ (List.getElem_mem hj2), ?_⟩
        refine ⟨_, rfl, ?_⟩
        exact ⟨fun hd => absurd (show false = true from hd) Bool.false_ne_true, fun _ => ⟨(), Wk.refl _, rfl, h⟩⟩
      · dsimp only at h; rw [if_neg hx] at h; exact h.elim
    · have hq1 : q.1 = [] := h
      rw [hq1]
      refine we_lst ?_
      refine wa_nil ?_
      refine ⟨by decide, ?_⟩
      refine ⟨_, _, .inl rfl, .inl rfl, ?_⟩
      refine opw_eqC (eqc_lst eqc_int) hr.units ([] : List Int) [] ?_
      exact ⟨_, rfl, hq⟩
  | dic ks xs => cases n <;> exact absurd (show false = true from hok) Bool.false_ne_true
  | ins C xs => cases n <;> exact absurd (show false = true from hok) Bool.false_ne_true
  | adr a => cases n <;> exact absurd (show false = true from hok) Bool.false_ne_true
  | obj a b c => cases n <;> exact absurd (show false = true from hok) Bool.false_ne_true
  | slo a b c e => cases n <;> exact absurd (show false = true from hok) Bool.false_ne_true
  | xdo a b => cases n <;> exact absurd (show false = true from hok) Bool.false_ne_true
  | scr a => cases n <;> exact absurd (show false = true from hok) Bool.false_ne_true
  | tab a => cases n <;> exact absurd (show false = true from hok) Bool.false_ne_true
  | hob a => cases n <;> exact absurd (show false = true from hok) Bool.false_ne_true
  | kd _ _ _ => cases n <;> exact absurd (show false = true from hok) Bool.false_ne_true
theorem ok_is_number {f : Addr} {fd : FuncData} (F : Fun K "is_number" "is_number" s_is_number f fd) (B : Bn mg) : FnOk P w K mg base (L2.CX P w) 3 f fd ["value", "lowest", "highest"] (spD K (FM cx (A := Int × Int × Int) (R := Bool) (fun a => [eI a.1, eI a.2.1, eI a.2.2]) (fun v => .sh (eB v)) (fun a => .ok (m_is_number a.1 a.2.1 a.2.2)))) := by
  refine def_ok F sc_is_number (fun ds G post px h => ?_) (fun cdv A outer s H E F0 T hr ds G post px h tk hp => ?_)
  · obtain ⟨_, rfl, _⟩ := h; rfl
  obtain ⟨⟨value1, lowest2, highest3⟩, rfl, h⟩ := h
  unfold m_is_number at h
  try dsimp only at h
  have nd := sc_is_number.nd
  refine wb_env [.sh (eI value1), .sh (eI lowest2), .sh (eI highest3)] rfl ?_
  -- 35
  refine wb_cons (ws_ret ?_)
  refine we_andP (c2 := (!false) && ((decide (lowest2 ≤ value1)) && (decide (value1 ≤ highest3)))) ?_
  refine we_isi rfl B.isinstance bt_isinstance rfl B.int bt_int ?_
  refine we_var 0 rfl (by walk_at "vis") rfl ?_
  refine ⟨_, _, _, .inl rfl, rfl, kt_int_int, ?_⟩
  refine ⟨_, rfl, fun _ => ?_, ?_⟩
  · skip
    refine we_andP (c2 := (decide (lowest2 ≤ value1)) && (decide (value1 ≤ highest3))) ?_
    refine we_not ?_
    refine we_isi rfl B.isinstance bt_isinstance rfl B.bool bt_bool ?_
    refine we_var 0 rfl (by walk_at "vis") rfl ?_
    refine ⟨_, _, _, .inl rfl, rfl, kt_int_bool, ?_⟩
    refine ⟨_, rfl, ?_⟩
    refine ⟨_, rfl, fun _ => ?_, ?_⟩
    · skip
      refine we_one ?_
      refine we_chainI (fun i j R q => opw_le q) (fun i j R q => opw_le q) ?_
      refine we_var 1 rfl (by walk_at "vis") rfl ?_
      refine we_var 0 rfl (by walk_at "vis") rfl ?_
      refine ⟨_, _, highest3, rfl, rfl, fun _ => ?_, ?_⟩
      · skip
        refine we_var 2 rfl (by walk_at "vis") rfl ?_
        exact ⟨rfl, rfl, rfl⟩
      exact ⟨rfl, rfl, rfl⟩
    exact ⟨rfl, rfl, rfl⟩
  refine ⟨_, rfl, ?_⟩
  exact h
theorem ok_Ruler_init {f : Addr} {fd : FuncData} (F : Fun K "__init__" "Ruler.__init__" s_Ruler_init f fd) (B : Bn mg) (c_is_number : Cal P w K mg base "is_number" 3 ["value", "lowest", "highest"] (FM cx (A := Int × Int × Int) (R := Bool) (fun a => [eI a.1, eI a.2.1, eI a.2.2]) (fun v => .sh (eB v)) (fun a => .ok (m_is_number a.1 a.2.1 a.2.2)))) (cl_Ruler : Cl_Ruler K C_Ruler) {t_MAX_ERROR : Tok} (m_MAX_ERROR : mg "MAX_ERROR" = some (.int 9 t_MAX_ERROR)) {t_MAX_LENGTH : Tok} (m_MAX_LENGTH : mg "MAX_LENGTH" = some (.int 300 t_MAX_LENGTH)) {t_MAX_MARKS : Tok} (m_MAX_MARKS : mg "MAX_MARKS" = some (.int 12 t_MAX_MARKS)) {t_MIN_MARKS : Tok} (m_MIN_MARKS : mg "MIN_MARKS" = some (.int 2 t_MIN_MARKS)) : FnOk P w K mg base (L2.CX P w) 5 f fd ["self", "marks", "error"] (spI K C_Ruler (FMI cx (A := (List Int) × Int) (R := Rul) (fun a => [(eT eI) a.1, eI a.2]) (fun r => [.int r.error, .tup (r.marks.map D.int)]) (fun a => mk_Ruler a.1 a.2))) := by
  obtain ⟨q_Ruler_0, sl_Ruler_0⟩ := cl_Ruler.s0
  obtain ⟨q_Ruler_1, sl_Ruler_1⟩ := cl_Ruler.s1
  have nd := sc_Ruler_init.nd
  refine init2r_ok F sc_Ruler_init cl_Ruler.cls sl_Ruler_1 sl_Ruler_0 (fun ds G post px h => ?_) ((defBody s_Ruler_init).take 3) ((defBody s_Ruler_init).getD 3 (.Pass ⟨0, 0, 0, 0⟩)) ((defBody s_Ruler_init).getD 4 (.Pass ⟨0, 0, 0, 0⟩)) 1 2 rfl (fun cdv A outer s H E F0 T hr px => ⟨SlX.ps_sl (pe_var rfl (by walk_at "vis")) (pe_var rfl (by walk_at "vis")), SlX.ps_sl (pe_var rfl (by walk_at "vis")) (pe_var rfl (by walk_at "vis")), fun a0 ds G post h tk hp => ?_⟩)
  · obtain ⟨_, rfl, _⟩ := h; rfl
  obtain ⟨⟨marks1, error2⟩, rfl, h⟩ := h
  unfold mk_Ruler at h
  try dsimp only at h
  refine wb_env [.sh (.adr a0), .sh ((eT eI) marks1), .sh (eI error2), .no, .no, .no] rfl ?_
  -- 42
  refine wb_forO (β := Rul) [3, 4] (σT := Unit) (fun s3 => [.sh (.adr a0), .sh ((eT eI) marks1), .sh (eI error2), .no, .no, .no]) (fun s3 => G) (eP eI eI) hp rfl ?_
  refine ti_enumT (f := eI) rfl B.enumerate ?_
  refine we_var 1 rfl (by walk_at "vis") rfl ?_
  refine ⟨marks1, _, rfl, fun hl6 => ?_⟩
  refine ⟨(penum marks1), (), _, _, _, _, rfl, (.eq (.eq (.eq (.no (.no (.no .nil)))))), rfl, h, fun s3 x5 Q' h => ?_, fun s4 h => ?_⟩
  · skip
    refine wg_pair 3 4 rfl nd rfl rfl (by walk_at "vis") (by walk_at "vis") (by decide) (by decide) (lt_ rfl) (lt_ rfl) ?_
    refine wb_env [.sh (.adr a0), .sh ((eT eI) marks1), .sh (eI error2), .sh (eI x5.1), .sh (eI x5.2), .no] rfl ?_
    -- 43
    refine wb_cons (ws_set 5 nd rfl (by walk_at "vis") ?_)
    refine we_ifN eI ?_
    refine wt_cmp (nomark _) ?_
    refine we_var 3 rfl (by walk_at "vis") rfl ?_
    refine we_int ?_
    refine ⟨_, _, .inl rfl, .inl rfl, ?_⟩
    refine opw_eqI ?_
    refine ⟨_, rfl, ?_⟩
    refine ⟨_, _, _, _, _, _, h, fun _ Q' h => ?_, fun _ Q' h => ?_, fun i7 h => ?_⟩
    · skip
      refine we_int ?_
      exact ⟨_, rfl, rfl, rfl, h⟩
    · skip
      refine we_bin ?_
      refine we_ix (fun _ _ => rfl) ?_
      refine we_var 1 rfl (by walk_at "vis") rfl ?_
      refine we_bin ?_
      refine we_var 3 rfl (by walk_at "vis") rfl ?_
      refine we_int ?_
      refine ⟨_, _, .inl rfl, .inl rfl, ?_⟩
      refine opw_sub ?_
      obtain ⟨x8, hx8, h⟩ := Out.gt h
      refine ⟨_, _, .inl rfl, .inl rfl, ?_⟩
      refine t_ixT (f := eI) hx8 ?_
      refine we_int ?_
      refine ⟨_, _, .inl rfl, .inl rfl, ?_⟩
      refine opw_add ?_
      exact ⟨_, rfl, rfl, rfl, h⟩
    refine ⟨lt_ rfl, _, rfl, ?_⟩
    refine wb_env [.sh (.adr a0), .sh ((eT eI) marks1), .sh (eI error2), .sh (eI x5.1), .sh (eI x5.2), .sh (eI i7)] rfl ?_
    -- 44
    refine wb_cons (ws_if ?_)
    refine wt_w ?_
    refine ww_orB ?_
    refine wt_cmp (nomark _) ?_
    refine we_var 3 rfl (by walk_at "vis") rfl ?_
    refine we_globI rfl m_MAX_MARKS ?_
    refine ⟨_, _, .inl rfl, .inl rfl, ?_⟩
    refine opw_eqI ?_
    refine ⟨_, rfl, ?_⟩
    refine ⟨(!(m_is_number x5.2 i7 (if (decide (x5.1 = (0 : Int))) = true then (0 : Int) else (300 : Int)))), fun _ => ?_, ?_⟩
    · skip
      refine ww_or1 ?_
      refine wt_not ?_
      refine wt_val (fun _ => rfl) ?_
      refine we_cal tk c_is_number hr rfl ?_
      refine wa_cons ?_
      refine we_var 4 rfl (by walk_at "vis") rfl ?_
      refine ⟨_, _, rfl, ?_⟩
      refine wa_cons ?_
      refine we_var 5 rfl (by walk_at "vis") rfl ?_
      refine ⟨_, _, rfl, ?_⟩
      refine wa_cons ?_
      refine we_ifP (en := eI) (va := (0 : Int)) (vb := (300 : Int)) ?_
      refine wt_cmp (nomark _) ?_
      refine we_var 3 rfl (by walk_at "vis") rfl ?_
      refine we_int ?_
      refine ⟨_, _, .inl rfl, .inl rfl, ?_⟩
      refine opw_eqI ?_
      refine ⟨_, rfl, ?_⟩
      refine ⟨fun _ => ?_, fun _ => ?_, ?_⟩
      · skip
        refine we_int ?_
        exact ⟨rfl, rfl, rfl⟩
      · skip
        refine we_globI rfl m_MAX_LENGTH ?_
        exact ⟨rfl, rfl, rfl⟩
      refine ⟨_, _, rfl, ?_⟩
      refine wa_nil ?_
      refine ⟨(x5.2, i7, if (decide (x5.1 = (0 : Int))) = true then (0 : Int) else (300 : Int)), rfl, ?_⟩
      refine ⟨_, rfl, ?_⟩
      exact ⟨rfl, rfl, rfl⟩
    refine ⟨fun hc => ?_, fun hc => ?_⟩
    · skip
      have h := (Out.iteb h).1 hc
      -- 45
      exact h.elim
    have h := (Out.iteb h).2 hc
    refine wb_nil ?_
    exact wb_nil ⟨(), (.eq (.eq (.eq (.no (.no (.no .nil)))))), rfl, h⟩
  -- 46
  refine wb_cons (ws_if ?_)
  refine wt_cmp (nomark _) ?_
  refine we_b1 (x := "len") (id := "len") rfl B.len bt_len ?_
  refine we_var 1 rfl (by walk_at "vis") rfl ?_
  refine ⟨_, .inl rfl, ?_⟩
  refine t_lenT (f := eI) marks1 ?_
  refine we_globI rfl m_MIN_MARKS ?_
  refine ⟨_, _, .inl rfl, .inl rfl, ?_⟩
  refine opw_lt ?_
  refine ⟨_, rfl, ?_⟩
  refine ⟨fun hc => ?_, fun hc => ?_⟩
  · skip
    have h := (Out.iteb h).1 hc
    -- 47
    exact h.elim
  have h := (Out.iteb h).2 hc
  refine wb_nil ?_
  -- 48
  refine wb_cons (ws_if ?_)
  refine wt_not ?_
  refine wt_val (fun _ => rfl) ?_
  refine we_cal tk c_is_number hr rfl ?_
  refine wa_cons ?_
  refine we_var 2 rfl (by walk_at "vis") rfl ?_
  refine ⟨_, _, rfl, ?_⟩
  refine wa_cons ?_
  refine we_int ?_
  refine ⟨_, _, rfl, ?_⟩
  refine wa_cons ?_
  refine we_globI rfl m_MAX_ERROR ?_
  refine ⟨_, _, rfl, ?_⟩
  refine wa_nil ?_
  refine ⟨(error2, (0 : Int), (9 : Int)), rfl, ?_⟩
  refine ⟨_, rfl, ?_⟩
  refine ⟨fun hc => ?_, fun hc => ?_⟩
  · skip
    have h := (Out.iteb h).1 hc
    -- 49
    exact h.elim
  have h := (Out.iteb h).2 hc
  refine wb_nil ?_
  exact wb_nil ⟨rfl, _, _, rfl, rfl, h⟩
theorem ok_Ruler_marks {f : Addr} {fd : FuncData} (F : Fun K "marks" "Ruler.marks" s_Ruler_marks f fd) (B : Bn mg) (cl_Ruler : Cl_Ruler K C_Ruler) : FnOk P w K mg base (L2.CX P w) 3 f fd ["self"] (spD K (FM cx (A := Rul) (R := List Int) (fun a => [(eRul C_Ruler) a]) (fun v => .sh ((eT eI) v)) (fun a => .ok (m_Ruler_marks a)))) := by
  refine def_ok F sc_Ruler_marks (fun ds G post px h => ?_) (fun cdv A outer s H E F0 T hr ds G post px h tk hp => ?_)
  · obtain ⟨_, rfl, _⟩ := h; rfl
  obtain ⟨self1, rfl, h⟩ := h
  unfold m_Ruler_marks at h
  try dsimp only at h
  have nd := sc_Ruler_marks.nd
  obtain ⟨q_Ruler_0, sl_Ruler_0⟩ := cl_Ruler.s0
  obtain ⟨q_Ruler_1, sl_Ruler_1⟩ := cl_Ruler.s1
  refine wb_env [.sh ((eRul C_Ruler) self1)] rfl ?_
  -- 55
  refine wb_cons (ws_ret ?_)
  refine we_fld 1 cl_Ruler.cls sl_Ruler_1 ?_
  refine we_var 0 rfl (by walk_at "vis") rfl ?_
  refine ⟨_, _, rfl, rfl, ?_⟩
  refine ⟨_, rfl, ?_⟩
  exact h
theorem ok_Ruler_error {f : Addr} {fd : FuncData} (F : Fun K "error" "Ruler.error" s_Ruler_error f fd) (B : Bn mg) (cl_Ruler : Cl_Ruler K C_Ruler) : FnOk P w K mg base (L2.CX P w) 3 f fd ["self"] (spD K (FM cx (A := Rul) (R := Int) (fun a => [(eRul C_Ruler) a]) (fun v => .sh (eI v)) (fun a => .ok (m_Ruler_error a)))) := by
  refine def_ok F sc_Ruler_error (fun ds G post px h => ?_) (fun cdv A outer s H E F0 T hr ds G post px h tk hp => ?_)
  · obtain ⟨_, rfl, _⟩ := h; rfl
  obtain ⟨self1, rfl, h⟩ := h
  unfold m_Ruler_error at h
  try dsimp only at h
  have nd := sc_Ruler_error.nd
  obtain ⟨q_Ruler_0, sl_Ruler_0⟩ := cl_Ruler.s0
  obtain ⟨q_Ruler_1, sl_Ruler_1⟩ := cl_Ruler.s1
  refine wb_env [.sh ((eRul C_Ruler) self1)] rfl ?_
  -- 59
  refine wb_cons (ws_ret ?_)
  refine we_fld 0 cl_Ruler.cls sl_Ruler_0 ?_
  refine we_var 0 rfl (by walk_at "vis") rfl ?_
  refine ⟨_, _, rfl, rfl, ?_⟩
  refine ⟨_, rfl, ?_⟩
  exact h
theorem ok_mirrored {f : Addr} {fd : FuncData} (F : Fun K "mirrored" "mirrored" s_mirrored f fd) (B : Bn mg) : FnOk P w K mg base (L2.CX P w) 3 f fd ["marks"] (spD K (FM cx (A := List Int) (R := List Int) (fun a => [(eT eI) a]) (fun v => .sh ((eT eI) v)) (fun a => m_mirrored a))) := by
  refine def_ok F sc_mirrored (fun ds G post px h => ?_) (fun cdv A outer s H E F0 T hr ds G post px h tk hp => ?_)
  · obtain ⟨_, rfl, _⟩ := h; rfl
  obtain ⟨marks1, rfl, h⟩ := h
  unfold m_mirrored at h
  try dsimp only at h
  have nd := sc_mirrored.nd
  refine wb_env [.sh ((eT eI) marks1), .no] rfl ?_
  -- 37
  refine wb_cons (ws_ret ?_)
  refine we_t1 (x := "tuple") (id := "tuple") rfl B.tuple bt_tuple ?_
  refine we_lcQ [("mark", 1)] rfl nd (blkOk_by (by rfl)) (lcS_preP (γ := List Int) [("mark", 1)] [.sh ((eT eI) marks1), .no] (fun _ : Unit => G) (en := eI) eI ?_)
  refine ti_revL (f := eI) rfl B.reversed ?_
  refine we_t1 (x := "list") (id := "list") rfl B.list bt_list ?_
  refine we_var 0 rfl (by walk_at "vis") rfl ?_
  refine ⟨_, .inl rfl, ?_⟩
  refine c_listT ?_
  refine ⟨marks1, _, rfl, fun hl3 => ?_⟩
  refine ⟨((marks1).reverse), (), _, _, _, _, rfl, hl3, Wk.refl _, rfl, h, fun s4 x2 Q' h => ?_, fun l5 h => ?_⟩
  · skip
    rintro Y ⟨s1, H1, C1, cl, fp, rfl⟩
    refine wg_name 1 nd rfl (by walk_at "vis") (by decide) (lt_ rfl) ?_
    rintro Y ⟨s1, H1, C1, cl, fp, rfl⟩
    refine we_bin ?_
    refine we_ix (fun _ _ => rfl) ?_
    refine we_var 0 rfl (by walk_at "vis") rfl ?_
    refine we_un rfl ?_
    refine we_int ?_
    refine ⟨_, rfl, ?_⟩
    obtain ⟨x6, hx6, h⟩ := Out.gt h
    refine ⟨_, _, .inl rfl, .inl rfl, ?_⟩
    refine t_ixT (f := eI) hx6 ?_
    refine we_var 1 rfl (by walk_at "vis") rfl ?_
    refine ⟨_, _, .inl rfl, .inl rfl, ?_⟩
    refine opw_sub ?_
    exact ⟨(x6 - x2), (), _, rfl, Wk.refl _, rfl, h⟩
  refine ⟨_, .inl rfl, ?_⟩
  refine c_tuple ?_
  refine ⟨_, rfl, ?_⟩
  exact h
theorem ok_is_name {f : Addr} {fd : FuncData} (F : Fun K "is_name" "is_name" s_is_name f fd) (B : Bn mg) {t_LETTERS : Tok} (m_LETTERS : mg "LETTERS" = some (.str "abcdefghijklmnopqrstuvwxyz" t_LETTERS)) {t_MAX_LETTERS : Tok} (m_MAX_LETTERS : mg "MAX_LETTERS" = some (.int 8 t_MAX_LETTERS)) : FnOk P w K mg base (L2.CX P w) 3 f fd ["name"] (spD K (FM cx (A := S) (R := Bool) (fun a => [eZ a]) (fun v => .sh (eB v)) (fun a => m_is_name a))) := by
  refine def_ok F sc_is_name (fun ds G post px h => ?_) (fun cdv A outer s H E F0 T hr ds G post px h tk hp => ?_)
  · obtain ⟨_, rfl, _⟩ := h; rfl
  obtain ⟨name1, rfl, h⟩ := h
  unfold m_is_name at h
  try dsimp only at h
  have nd := sc_is_name.nd
  refine wb_env [.sh (eZ name1), .no] rfl ?_
  -- 155
  refine wb_cons (ws_if ?_)
  refine wt_w ?_
  refine ww_orN ?_
  refine wt_not ?_
  refine wt_val (fun _ => rfl) ?_
  refine we_isi rfl B.isinstance bt_isinstance rfl B.str bt_str ?_
  refine we_var 0 rfl (by walk_at "vis") rfl ?_
  refine ⟨_, _, _, .inl rfl, rfl, kt_str_str, ?_⟩
  refine ⟨_, rfl, ?_⟩
  refine ⟨_, _, _, _, _, h, fun _ Q' h => ?_, fun c2 h => ?_⟩
  · skip
    refine ww_or1 ?_
    refine wt_not ?_
    refine wt_chainI (fun i j R q => opw_le q) (fun i j R q => opw_le q) ?_
    refine we_int ?_
    refine we_b1 (x := "len") (id := "len") rfl B.len bt_len ?_
    refine we_var 0 rfl (by walk_at "vis") rfl ?_
    refine ⟨_, .inl rfl, ?_⟩
    obtain ⟨g3, h⟩ := Out.gd h
    refine t_lenS (x := name1) g3 ?_
    refine ⟨_, _, (8 : Int), rfl, rfl, fun _ => ?_, ?_⟩
    · skip
      refine we_globI rfl m_MAX_LETTERS ?_
      exact ⟨rfl, rfl, rfl⟩
    exact ⟨rfl, rfl, h⟩
  refine ⟨fun hc => ?_, fun hc => ?_⟩
  · skip
    have h := (Out.iteb h).1 hc
    -- 156
    refine wb_cons (ws_ret ?_)
    refine we_bl ?_
    refine ⟨_, rfl, ?_⟩
    exact h
  have h := (Out.iteb h).2 hc
  refine wb_nil ?_
  -- 157
  refine wb_cons (ws_ret ?_)
  refine we_cmp (nomark _) ?_
  refine we_lcQ [("letter", 1)] rfl nd (blkOk_by (by rfl)) (lc1_pre [("letter", 1)] [.sh (eZ name1), .no] (en := eC) eC (fun x4 => !decide (x4 ∈ chrs z_abcdefghijklmnopqrst)) (fun (x4 : Chr) => x4) ?_)
  refine ti_str ?_
  refine we_var 0 rfl (by walk_at "vis") rfl ?_
  refine ⟨name1, _, rfl, ?_⟩
  obtain ⟨g5, h⟩ := Out.gd h
  refine ⟨(chrs name1), rfl, g5, Wk.refl _, fun x4 => ?_, ?_⟩
  · skip
    rintro Y ⟨s1, H1, C1, cl, fp, rfl⟩
    refine wg_name 1 nd rfl (by walk_at "vis") (by decide) (lt_ rfl) ?_
    rintro Y ⟨s1, H1, C1, cl, fp, rfl⟩
    refine wt_cmp rfl ?_
    refine we_var 1 rfl (by walk_at "vis") rfl ?_
    refine we_globS rfl m_LETTERS ?_
    refine ⟨_, _, .inl rfl, .inl rfl, ?_⟩
    refine t_ninS (c := x4) (x := z_abcdefghijklmnopqrst) ?_
    refine ⟨_, rfl, ?_⟩
    refine ⟨rfl, fun _ => ?_, fun _ => ?_⟩
    · skip
      rintro Y ⟨s1, H1, C1, cl, fp, rfl⟩
      refine we_var 1 rfl (by walk_at "vis") rfl ?_
      exact ⟨_, rfl, Wk.refl _, rfl⟩
    exact ⟨Wk.refl _, rfl⟩
  refine we_lst ?_
  refine wa_nil ?_
  refine ⟨by decide, ?_⟩
  refine ⟨_, _, .inl rfl, .inl rfl, ?_⟩
  refine opw_eqC (eqc_lst eqc_chr) hr.units (((chrs name1).filter (fun (x4 : Chr) => !decide (x4 ∈ chrs z_abcdefghijklmnopqrst))).map (fun (x4 : Chr) => x4)) ([] : List Chr) ?_
  refine ⟨_, rfl, ?_⟩
  exact h
theorem ok_Rack_init {f : Addr} {fd : FuncData} (F : Fun K "__init__" "Rack.__init__" s_Rack_init f fd) (B : Bn mg) (c_is_name : Cal P w K mg base "is_name" 3 ["name"] (FM cx (A := S) (R := Bool) (fun a => [eZ a]) (fun v => .sh (eB v)) (fun a => m_is_name a))) (cl_Rack : Cl_Rack K C_Rack) {t_MAX_RULERS : Tok} (m_MAX_RULERS : mg "MAX_RULERS" = some (.int 6 t_MAX_RULERS)) : FnOk P w K mg base (L2.CX P w) 5 f fd ["self", "rulers"] (spI K C_Rack (FMI cx (A := List (S × Rul)) (R := Rak) (fun a => [(eD kZ (eRul C_Ruler)) a]) (fun r => [eD kZ (eRul C_Ruler) r.held]) (fun a => mk_Rack a))) := by
  obtain ⟨q_Rack_0, sl_Rack_0⟩ := cl_Rack.s0
  have nd := sc_Rack_init.nd
  refine init1_ok F sc_Rack_init cl_Rack.cls sl_Rack_0 (fun ds G post px h => ?_) ((defBody s_Rack_init).take 2) ((defBody s_Rack_init).getD 2 (.Pass ⟨0, 0, 0, 0⟩)) (asgV ((defBody s_Rack_init).getD 2 (.Pass ⟨0, 0, 0, 0⟩))) rfl (fun cdv A outer s H E F0 T hr px => ⟨SlX.ps_sl (pe_var rfl (by walk_at "vis")) peR, fun a0 ds G post h tk hp => ?_⟩)
  · obtain ⟨_, rfl, _⟩ := h; rfl
  obtain ⟨rulers1, rfl, h⟩ := h
  unfold mk_Rack at h
  try dsimp only at h
  refine wb_env [.sh (.adr a0), .sh ((eD kZ (eRul C_Ruler)) rulers1), .no, .no] rfl ?_
  -- 162
  refine wb_forO (β := Rak) [2, 3] (σT := Unit) (fun s2 => [.sh (.adr a0), .sh ((eD kZ (eRul C_Ruler)) rulers1), .no, .no]) (fun s2 => G) (eP eI eZ) hp rfl ?_
  refine ti_enumD (k := kZ) (f := (eRul C_Ruler)) rfl B.enumerate ?_
  refine we_var 1 rfl (by walk_at "vis") rfl ?_
  refine ⟨rulers1, _, rfl, fun hl5 => ?_⟩
  refine ⟨(penum (rulers1.map (·.1))), (), _, _, _, _, rfl, (.eq (.eq (.no (.no .nil)))), rfl, h, fun s2 x4 Q' h => ?_, fun s3 h => ?_⟩
  · skip
    refine wg_pair 2 3 rfl nd rfl rfl (by walk_at "vis") (by walk_at "vis") (by decide) (by decide) (lt_ rfl) (lt_ rfl) ?_
    refine wb_env [.sh (.adr a0), .sh ((eD kZ (eRul C_Ruler)) rulers1), .sh (eI x4.1), .sh (eZ x4.2)] rfl ?_
    -- 163
    refine wb_cons (ws_if ?_)
    refine wt_w ?_
    refine ww_orN ?_
    refine wt_cmp (nomark _) ?_
    refine we_var 2 rfl (by walk_at "vis") rfl ?_
    refine we_globI rfl m_MAX_RULERS ?_
    refine ⟨_, _, .inl rfl, .inl rfl, ?_⟩
    refine opw_eqI ?_
    refine ⟨_, rfl, ?_⟩
    refine ⟨_, _, _, _, _, h, fun _ Q' h => ?_, fun c6 h => ?_⟩
    · skip
      refine ww_or1 ?_
      refine wt_not ?_
      refine wt_val (fun _ => rfl) ?_
      refine we_cal tk c_is_name hr rfl ?_
      refine wa_cons ?_
      refine we_var 3 rfl (by walk_at "vis") rfl ?_
      refine ⟨_, _, rfl, ?_⟩
      refine wa_nil ?_
      refine ⟨x4.2, rfl, (Out.sb h).imp (fun r7 h => ?_) (fun _ he => he)⟩
      refine ⟨_, rfl, ?_⟩
      exact ⟨rfl, rfl, h⟩
    refine ⟨fun hc => ?_, fun hc => ?_⟩
    · skip
      have h := (Out.iteb h).1 hc
      -- 164
      exact h.elim
    have h := (Out.iteb h).2 hc
    refine wb_nil ?_
    exact wb_nil ⟨(), (.eq (.eq (.no (.no .nil)))), rfl, h⟩
  -- 165
  refine wb_cons (ws_if ?_)
  refine wt_cmp (nomark _) ?_
  refine we_var 1 rfl (by walk_at "vis") rfl ?_
  refine we_lock ?_
  refine we_dnew ?_
  refine ⟨_, _, rfl, ?_⟩
  refine ⟨_, _, .inl rfl, .inl rfl, ?_⟩
  refine t_deq0 (k := kZ) (f := (eRul C_Ruler)) hr.units rulers1 ?_
  refine ⟨_, rfl, ?_⟩
  refine ⟨fun hc => ?_, fun hc => ?_⟩
  · skip
    have h := (Out.iteb h).1 hc
    -- 166
    exact h.elim
  have h := (Out.iteb h).2 hc
  refine wb_nil ?_
  refine wb_nil ?_
  refine we_lock ?_
  refine we_dcS [("name", 3)] [.sh (.adr a0), .sh ((eD kZ (eRul C_Ruler)) rulers1), .no, .no] (fun _ : Unit => G) (en := eZ) kZ (eRul C_Ruler) kZ_inj rfl nd (blkOk_by (by rfl)) ?_
  refine ti_lst (f := eZ) ?_
  refine we_b1 (x := "sorted") (id := "sorted") rfl B.sorted bt_sorted ?_
  refine we_var 1 rfl (by walk_at "vis") rfl ?_
  refine ⟨_, .inl rfl, ?_⟩
  obtain ⟨g9, h⟩ := Out.gd h
  refine t_sortedDS (f := (eRul C_Ruler)) rulers1 rfl g9 ?_
  refine ⟨(ssort (rulers1.map (·.1))), _, rfl, fun hl10 => ?_⟩
  refine ⟨_, (ssort (rulers1.map (·.1))), (), _, _, _, _, rfl, hl10, Wk.refl _, rfl, h, fun s11 x8 Q' h => ?_, fun l12 h => ?_⟩
  · skip
    rintro Y ⟨s1, H1, C1, cl, fp, rfl⟩
    refine wg_name 3 nd rfl (by walk_at "vis") (by decide) (lt_ rfl) ?_
    rintro Y ⟨s1, H1, C1, cl, fp, rfl⟩
    refine we_var 3 rfl (by walk_at "vis") rfl ?_
    refine ⟨x8, rfl, ?_⟩
    rintro Y ⟨s1, H1, C1, cl, fp, rfl⟩
    refine we_dget (k := kZ) (f := (eRul C_Ruler)) kZ_inj hr.units (fun _ _ => rfl) ?_
    refine we_var 1 rfl (by walk_at "vis") rfl ?_
    refine we_var 3 rfl (by walk_at "vis") rfl ?_
    obtain ⟨x13, hx13, h⟩ := Out.gt h
    refine ⟨rulers1, x8, _, .inl rfl, rfl, hx13, ?_⟩
    exact ⟨x13, (), _, rfl, Wk.refl _, rfl, h⟩
  refine ⟨_, _, rfl, ?_⟩
  exact ⟨_, _, rfl, rfl, h⟩
theorem ok_Rack_getitem {f : Addr} {fd : FuncData} (F : Fun K "__getitem__" "Rack.__getitem__" s_Rack_getitem f fd) (B : Bn mg) (cl_Rack : Cl_Rack K C_Rack) : FnOk P w K mg base (L2.CX P w) 3 f fd ["self", "name"] (spD K (FM cx (A := Rak × S) (R := Rul) (fun a => [(eRak C_Rack C_Ruler) a.1, eZ a.2]) (fun v => .sh ((eRul C_Ruler) v)) (fun a => m_Rack___getitem a.1 a.2))) := by
  refine def_ok F sc_Rack_getitem (fun ds G post px h => ?_) (fun cdv A outer s H E F0 T hr ds G post px h tk hp => ?_)
  · obtain ⟨_, rfl, _⟩ := h; rfl
  obtain ⟨⟨self1, name2⟩, rfl, h⟩ := h
  unfold m_Rack___getitem at h
  try dsimp only at h
  have nd := sc_Rack_getitem.nd
  obtain ⟨q_Rack_0, sl_Rack_0⟩ := cl_Rack.s0
  refine wb_env [.sh ((eRak C_Rack C_Ruler) self1), .sh (eZ name2)] rfl ?_
  -- 178
  refine wb_cons (ws_if ?_)
  refine wt_cmp rfl ?_
  refine we_var 1 rfl (by walk_at "vis") rfl ?_
  refine we_fld 0 cl_Rack.cls sl_Rack_0 ?_
  refine we_var 0 rfl (by walk_at "vis") rfl ?_
  refine ⟨_, _, rfl, rfl, ?_⟩
  refine ⟨_, _, .inl rfl, .inl rfl, ?_⟩
  refine opw_dnin (k := kZ) (f := (eRul C_Ruler)) (kvs := self1.held) (x := name2) kZ_inj hr.units ?_
  refine ⟨_, rfl, ?_⟩
  refine ⟨fun hc => ?_, fun hc => ?_⟩
  · skip
    have h := (Out.iteb h).1 hc
    -- 179
    exact h.elim
  have h := (Out.iteb h).2 hc
  refine wb_nil ?_
  -- 180
  refine wb_cons (ws_ret ?_)
  refine we_dget (k := kZ) (f := (eRul C_Ruler)) kZ_inj hr.units (fun _ _ => rfl) ?_
  refine we_fld 0 cl_Rack.cls sl_Rack_0 ?_
  refine we_var 0 rfl (by walk_at "vis") rfl ?_
  refine ⟨_, _, rfl, rfl, ?_⟩
  refine we_var 1 rfl (by walk_at "vis") rfl ?_
  obtain ⟨x3, hx3, h⟩ := Out.gt h
  refine ⟨self1.held, name2, _, .inl rfl, rfl, hx3, ?_⟩
  refine ⟨_, rfl, ?_⟩
  exact h
theorem ok_Rack_contains {f : Addr} {fd : FuncData} (F : Fun K "__contains__" "Rack.__contains__" s_Rack_contains f fd) (B : Bn mg) (cl_Rack : Cl_Rack K C_Rack) : FnOk P w K mg base (L2.CX P w) 3 f fd ["self", "name"] (spD K (FM cx (A := Rak × S) (R := Bool) (fun a => [(eRak C_Rack C_Ruler) a.1, eZ a.2]) (fun v => .sh (eB v)) (fun a => .ok (m_Rack___contains a.1 a.2)))) := by
  refine def_ok F sc_Rack_contains (fun ds G post px h => ?_) (fun cdv A outer s H E F0 T hr ds G post px h tk hp => ?_)
  · obtain ⟨_, rfl, _⟩ := h; rfl
  obtain ⟨⟨self1, name2⟩, rfl, h⟩ := h
  unfold m_Rack___contains at h
  try dsimp only at h
  have nd := sc_Rack_contains.nd
  obtain ⟨q_Rack_0, sl_Rack_0⟩ := cl_Rack.s0
  refine wb_env [.sh ((eRak C_Rack C_Ruler) self1), .sh (eZ name2)] rfl ?_
  -- 186
  refine wb_cons (ws_ret ?_)
  refine we_cmp rfl ?_
  refine we_var 1 rfl (by walk_at "vis") rfl ?_
  refine we_fld 0 cl_Rack.cls sl_Rack_0 ?_
  refine we_var 0 rfl (by walk_at "vis") rfl ?_
  refine ⟨_, _, rfl, rfl, ?_⟩
  refine ⟨_, _, .inl rfl, .inl rfl, ?_⟩
  refine opw_din (k := kZ) (f := (eRul C_Ruler)) (kvs := self1.held) (x := name2) kZ_inj hr.units ?_
  refine ⟨_, rfl, ?_⟩
  exact h
theorem ok_validate_measurings {f : Addr} {fd : FuncData} (F : Fun K "validate_measurings" "validate_measurings" s_validate_measurings f fd) (B : Bn mg) (c_is_number : Cal P w K mg base "is_number" 3 ["value", "lowest", "highest"] (FM cx (A := Int × Int × Int) (R := Bool) (fun a => [eI a.1, eI a.2.1, eI a.2.2]) (fun v => .sh (eB v)) (fun a => .ok (m_is_number a.1 a.2.1 a.2.2)))) (cl_Rack : Cl_Rack K C_Rack) {t_MAX_OFFSET : Tok} (m_MAX_OFFSET : mg "MAX_OFFSET" = some (.int 200 t_MAX_OFFSET)) (x_Rack_contains : SpecD P w K mg base C_Rack "__contains__" 3 ["self", "name"] (FM cx (A := Rak × S) (R := Bool) (fun a => [(eRak C_Rack C_Ruler) a.1, eZ a.2]) (fun v => .sh (eB v)) (fun a => .ok (m_Rack___contains a.1 a.2)))) : FnOk P w K mg base (L2.CX P w) 6 f fd ["rack", "measurings"] (spD K (FM cx (A := Rak × (List ((S × Bool × Int)))) (R := Unit) (fun a => [(eRak C_Rack C_Ruler) a.1, (eL (eP3 eZ eB eI)) a.2]) (fun v => .sh (eU v)) (fun a => m_validate_measurings a.1 a.2))) := by
  refine def_ok F sc_validate_measurings (fun ds G post px h => ?_) (fun cdv A outer s H E F0 T hr ds G post px h tk hp => ?_)
  · obtain ⟨_, rfl, _⟩ := h; rfl
  obtain ⟨⟨rack1, measurings2⟩, rfl, h⟩ := h
  unfold m_validate_measurings at h
  try dsimp only at h
  have nd := sc_validate_measurings.nd
  obtain ⟨q_Rack_0, sl_Rack_0⟩ := cl_Rack.s0
  refine wb_env [.sh ((eRak C_Rack C_Ruler) rack1), .sh ((eL (eP3 eZ eB eI)) measurings2), .no, .no, .no, .no] rfl ?_
  -- 86
  refine wb_forO (β := Unit) [2, 3, 4, 5] (σT := Unit) (fun s3 => [.sh ((eRak C_Rack C_Ruler) rack1), .sh ((eL (eP3 eZ eB eI)) measurings2), .no, .no, .no, .no]) (fun s3 => G) (eP eI (eP3 eZ eB eI)) hp rfl ?_
  refine ti_enumL (f := (eP3 eZ eB eI)) rfl B.enumerate ?_
  refine we_var 1 rfl (by walk_at "vis") rfl ?_
  refine ⟨measurings2, _, rfl, fun hl6 => ?_⟩
  refine ⟨(penum measurings2), (), _, _, _, _, rfl, (.eq (.eq (.no (.no (.no (.no .nil)))))), rfl, h, fun s3 x5 Q' h => ?_, fun s4 h => ?_⟩
  · skip
    refine wg_tupN rfl ?_
    refine wgs_cons ?_
    refine wg_name 2 nd rfl (by walk_at "vis") (by decide) (lt_ rfl) ?_
    refine wgs_cons ?_
    refine wg_trip 3 4 5 rfl nd rfl rfl rfl (by walk_at "vis") (by walk_at "vis") (by walk_at "vis") (by decide) (by decide) (by decide) (lt_ rfl) (lt_ rfl) (lt_ rfl) ?_
    refine wgs_nil ?_
    refine wb_env [.sh ((eRak C_Rack C_Ruler) rack1), .sh ((eL (eP3 eZ eB eI)) measurings2), .sh (eI x5.1), .sh (eZ x5.2.1), .sh (eB x5.2.2.1), .sh (eI x5.2.2.2)] rfl ?_
    -- 87
    refine wb_cons (ws_if ?_)
    refine wt_w ?_
    refine ww_orB ?_
    refine wt_cmp rfl ?_
    refine we_var 3 rfl (by walk_at "vis") rfl ?_
    refine we_var 0 rfl (by walk_at "vis") rfl ?_
    refine ⟨_, _, .inl rfl, .inl rfl, ?_⟩
    refine opw_ninOwn x_Rack_contains hr (fla_str _) (fun G_ => ⟨(rack1, x5.2.1), rfl, rfl, _, rfl, ?_⟩)
    refine ⟨_, rfl, ?_⟩
    refine ⟨(!(m_is_number x5.2.2.2 (0 : Int) (200 : Int))), fun _ => ?_, ?_⟩
    · skip
      refine ww_or1 ?_
      refine wt_not ?_
      refine wt_val (fun _ => rfl) ?_
      refine we_cal tk c_is_number hr rfl ?_
      refine wa_cons ?_
      refine we_var 5 rfl (by walk_at "vis") rfl ?_
      refine ⟨_, _, rfl, ?_⟩
      refine wa_cons ?_
      refine we_int ?_
      refine ⟨_, _, rfl, ?_⟩
      refine wa_cons ?_
      refine we_globI rfl m_MAX_OFFSET ?_
      refine ⟨_, _, rfl, ?_⟩
      refine wa_nil ?_
      refine ⟨(x5.2.2.2, (0 : Int), (200 : Int)), rfl, ?_⟩
      refine ⟨_, rfl, ?_⟩
      exact ⟨rfl, rfl, rfl⟩
    refine ⟨fun hc => ?_, fun hc => ?_⟩
    · skip
      have h := (Out.iteb h).1 hc
      -- 88
      exact h.elim
    have h := (Out.iteb h).2 hc
    refine wb_nil ?_
    exact wb_nil ⟨(), (.eq (.eq (.no (.no (.no (.no .nil)))))), rfl, h⟩
  exact wb_nil h
theorem ok_validate_lengths_of_things_t {f : Addr} {fd : FuncData} (F : Fun K "validate_lengths_of_things" "validate_lengths_of_things" s_validate_lengths_of_things f fd) (B : Bn mg) (c_is_number : Cal P w K mg base "is_number" 3 ["value", "lowest", "highest"] (FM cx (A := Int × Int × Int) (R := Bool) (fun a => [eI a.1, eI a.2.1, eI a.2.2]) (fun v => .sh (eB v)) (fun a => .ok (m_is_number a.1 a.2.1 a.2.2)))) {t_MAX_LENGTH : Tok} (m_MAX_LENGTH : mg "MAX_LENGTH" = some (.int 300 t_MAX_LENGTH)) : FnOk P w K mg base (L2.CX P w) 5 f fd ["values"] (spD K (FM cx (A := List Int) (R := Unit) (fun a => [(eT eI) a]) (fun v => .sh (eU v)) (fun a => m_validate_lengths_of_things_t a))) := by
  refine def_ok F sc_validate_lengths_of_things (fun ds G post px h => ?_) (fun cdv A outer s H E F0 T hr ds G post px h tk hp => ?_)
  · obtain ⟨_, rfl, _⟩ := h; rfl
  obtain ⟨values1, rfl, h⟩ := h
  unfold m_validate_lengths_of_things_t at h
  try dsimp only at h
  have nd := sc_validate_lengths_of_things.nd
  refine wb_env [.sh ((eT eI) values1), .no] rfl ?_
  -- 90
  refine wb_cons (ws_if ?_)
  refine wt_cmp (nomark _) ?_
  refine we_lcQ [("value", 1)] rfl nd (blkOk_by (by rfl)) (lc1_pre [("value", 1)] [.sh ((eT eI) values1), .no] (en := eI) eI (fun x2 => !(m_is_number x2 (1 : Int) (300 : Int))) (fun (x2 : Int) => x2) ?_)
  refine ti_tup (f := eI) ?_
  refine we_var 0 rfl (by walk_at "vis") rfl ?_
  refine ⟨values1, _, rfl, fun hl3 => ?_⟩
  refine ⟨values1, rfl, hl3, Wk.refl _, fun x2 => ?_, ?_⟩
  · skip
    rintro Y ⟨s1, H1, C1, cl, fp, rfl⟩
    refine wg_name 1 nd rfl (by walk_at "vis") (by decide) (lt_ rfl) ?_
    rintro Y ⟨s1, H1, C1, cl, fp, rfl⟩
    refine wt_not ?_
    refine wt_val (fun _ => rfl) ?_
    refine we_cal (BlkX.tk ⟨_, _, _, _, _, rfl⟩) c_is_number hr rfl ?_
    refine wa_cons ?_
    refine we_var 1 rfl (by walk_at "vis") rfl ?_
    refine ⟨_, _, rfl, ?_⟩
    refine wa_cons ?_
    refine we_int ?_
    refine ⟨_, _, rfl, ?_⟩
    refine wa_cons ?_
    refine we_globI rfl m_MAX_LENGTH ?_
    refine ⟨_, _, rfl, ?_⟩
    refine wa_nil ?_
    refine ⟨(x2, (1 : Int), (300 : Int)), rfl, ?_⟩
    refine ⟨_, rfl, ?_⟩
    refine ⟨rfl, fun _ => ?_, fun _ => ?_⟩
    · skip
      rintro Y ⟨s1, H1, C1, cl, fp, rfl⟩
      refine we_var 1 rfl (by walk_at "vis") rfl ?_
      exact ⟨_, rfl, Wk.refl _, rfl⟩
    exact ⟨Wk.refl _, rfl⟩
  refine we_lst ?_
  refine wa_nil ?_
  refine ⟨by decide, ?_⟩
  refine ⟨_, _, .inl rfl, .inl rfl, ?_⟩
  refine opw_neC (eqc_lst eqc_int) hr.units ((values1.filter (fun (x2 : Int) => !(m_is_number x2 (1 : Int) (300 : Int)))).map (fun (x2 : Int) => x2)) ([] : List Int) ?_
  refine ⟨_, rfl, ?_⟩
  refine ⟨fun hc => ?_, fun hc => ?_⟩
  · skip
    have h := (Out.iteb h).1 hc
    -- 91
    exact h.elim
  have h := (Out.iteb h).2 hc
  refine wb_nil ?_
  exact wb_nil h
theorem ok_read_at {f : Addr} {fd : FuncData} (F : Fun K "read_at" "read_at" s_read_at f fd) (B : Bn mg) : FnOk P w K mg base (L2.CX P w) 3 f fd ["marks", "length"] (spD K (FM cx (A := (List Int) × Int) (R := (Int × Bool)) (fun a => [(eT eI) a.1, eI a.2]) (fun v => .sh ((eP eI eB) v)) (fun a => m_read_at a.1 a.2))) := by
  refine def_ok F sc_read_at (fun ds G post px h => ?_) (fun cdv A outer s H E F0 T hr ds G post px h tk hp => ?_)
  · obtain ⟨_, rfl, _⟩ := h; rfl
  obtain ⟨⟨marks1, length2⟩, rfl, h⟩ := h
  unfold m_read_at at h
  try dsimp only at h
  have nd := sc_read_at.nd
  refine wb_env [.sh ((eT eI) marks1), .sh (eI length2), .no, .no] rfl ?_
  -- 93
  refine wb_cons (ws_set 2 nd rfl (by walk_at "vis") ?_)
  refine we_bin ?_
  refine we_b1 (x := "len") (id := "len") rfl B.len bt_len ?_
  refine we_lcQ [("mark", 3)] rfl nd (blkOk_by (by rfl)) (lc1_pre [("mark", 3)] [.sh ((eT eI) marks1), .sh (eI length2), .no, .no] (en := eI) eI (fun x3 => decide (x3 ≤ length2)) (fun (x3 : Int) => x3) ?_)
  refine ti_tup (f := eI) ?_
  refine we_var 0 rfl (by walk_at "vis") rfl ?_
  refine ⟨marks1, _, rfl, fun hl4 => ?_⟩
  refine ⟨marks1, rfl, hl4, Wk.refl _, fun x3 => ?_, ?_⟩
  · skip
    rintro Y ⟨s1, H1, C1, cl, fp, rfl⟩
    refine wg_name 3 nd rfl (by walk_at "vis") (by decide) (lt_ rfl) ?_
    rintro Y ⟨s1, H1, C1, cl, fp, rfl⟩
    refine wt_cmp (nomark _) ?_
    refine we_var 3 rfl (by walk_at "vis") rfl ?_
    refine we_var 1 rfl (by walk_at "vis") rfl ?_
    refine ⟨_, _, .inl rfl, .inl rfl, ?_⟩
    refine opw_le ?_
    refine ⟨_, rfl, ?_⟩
    refine ⟨rfl, fun _ => ?_, fun _ => ?_⟩
    · skip
      rintro Y ⟨s1, H1, C1, cl, fp, rfl⟩
      refine we_var 3 rfl (by walk_at "vis") rfl ?_
      exact ⟨_, rfl, Wk.refl _, rfl⟩
    exact ⟨Wk.refl _, rfl⟩
  refine ⟨_, .inl rfl, ?_⟩
  refine t_len (f := eI) ((marks1.filter (fun (x3 : Int) => decide (x3 ≤ length2))).map (fun (x3 : Int) => x3)) ?_
  refine we_int ?_
  refine ⟨_, _, .inl rfl, .inl rfl, ?_⟩
  refine opw_sub ?_
  refine ⟨lt_ rfl, _, rfl, ?_⟩
  refine wb_let h (fun index5 => [.sh ((eT eI) marks1), .sh (eI length2), .sh (eI index5), .no]) rfl fun index5 h => ?_
  -- 94
  refine wb_cons (ws_ret ?_)
  refine we_tup ?_
  refine wa_cons ?_
  refine we_var 2 rfl (by walk_at "vis") rfl ?_
  refine ⟨_, _, rfl, ?_⟩
  refine wa_cons ?_
  refine we_andN ?_
  refine we_cmp (nomark _) ?_
  refine we_var 2 rfl (by walk_at "vis") rfl ?_
  refine we_int ?_
  refine ⟨_, _, .inl rfl, .inl rfl, ?_⟩
  refine opw_ge ?_
  refine ⟨_, _, _, _, _, _, rfl, h, fun _ Q' h => ?_, fun c6 h => ?_⟩
  · skip
    refine we_one ?_
    refine we_cmp (nomark _) ?_
    refine we_ix (fun _ _ => rfl) ?_
    refine we_var 0 rfl (by walk_at "vis") rfl ?_
    refine we_var 2 rfl (by walk_at "vis") rfl ?_
    obtain ⟨x7, hx7, h⟩ := Out.gt h
    refine ⟨_, _, .inl rfl, .inl rfl, ?_⟩
    refine t_ixT (f := eI) hx7 ?_
    refine we_var 1 rfl (by walk_at "vis") rfl ?_
    refine ⟨_, _, .inl rfl, .inl rfl, ?_⟩
    refine opw_eqI ?_
    exact ⟨_, rfl, rfl, rfl, h⟩
  refine ⟨_, _, rfl, ?_⟩
  refine wa_nil ?_
  refine ⟨lt_ rfl, ?_⟩
  refine ⟨_, rfl, ?_⟩
  exact h
theorem ok_all_results {f : Addr} {fd : FuncData} (F : Fun K "all_results" "all_results" s_all_results f fd) (B : Bn mg) (c_mirrored : Cal P w K mg base "mirrored" 3 ["marks"] (FM cx (A := List Int) (R := List Int) (fun a => [(eT eI) a]) (fun v => .sh ((eT eI) v)) (fun a => m_mirrored a))) (c_read_at : Cal P w K mg base "read_at" 3 ["marks", "length"] (FM cx (A := (List Int) × Int) (R := (Int × Bool)) (fun a => [(eT eI) a.1, eI a.2]) (fun v => .sh ((eP eI eB) v)) (fun a => m_read_at a.1 a.2))) (cl_Rack : Cl_Rack K C_Rack) (cl_Ruler : Cl_Ruler K C_Ruler) (p_Ruler_error : PropD P w K mg base C_Ruler "error" 3 (FM cx (A := Rul) (R := Int) (fun a => [(eRul C_Ruler) a]) (fun v => .sh (eI v)) (fun a => .ok (m_Ruler_error a)))) (p_Ruler_marks : PropD P w K mg base C_Ruler "marks" 3 (FM cx (A := Rul) (R := List Int) (fun a => [(eRul C_Ruler) a]) (fun v => .sh ((eT eI) v)) (fun a => .ok (m_Ruler_marks a)))) (x_Rack_getitem : ItemD P w K mg base C_Rack 3 ["self", "name"] (FM cx (A := Rak × S) (R := Rul) (fun a => [(eRak C_Rack C_Ruler) a.1, eZ a.2]) (fun v => .sh ((eRul C_Ruler) v)) (fun a => m_Rack___getitem a.1 a.2))) : FnOk P w K mg base (L2.CX P w) 6 f fd ["rack", "measuring", "length"] (spD K (FM cx (A := Rak × ((S × Bool × Int)) × Int) (R := List ((Int × Bool))) (fun a => [(eRak C_Rack C_Ruler) a.1, (eP3 eZ eB eI) a.2.1, eI a.2.2]) (fun v => .fr ((eL (eP eI eB)) v)) (fun a => m_all_results a.1 a.2.1 a.2.2))) := by
  refine def_ok F sc_all_results (fun ds G post px h => ?_) (fun cdv A outer s H E F0 T hr ds G post px h tk hp => ?_)
  · obtain ⟨_, rfl, _⟩ := h; rfl
  obtain ⟨⟨rack1, measuring2, length3⟩, rfl, h⟩ := h
  unfold m_all_results at h
  try dsimp only at h
  have nd := sc_all_results.nd
  obtain ⟨q_Rack_0, sl_Rack_0⟩ := cl_Rack.s0
  obtain ⟨q_Ruler_0, sl_Ruler_0⟩ := cl_Ruler.s0
  obtain ⟨q_Ruler_1, sl_Ruler_1⟩ := cl_Ruler.s1
  refine wb_env [.sh ((eRak C_Rack C_Ruler) rack1), .sh ((eP3 eZ eB eI) measuring2), .sh (eI length3), .no, .no, .no, .no, .no, .no, .no, .no] rfl ?_
  -- 96
  refine wb_cons (ws_asgG [3, 4, 5] ?_)
  refine we_var 1 rfl (by walk_at "vis") rfl ?_
  refine ⟨_, _, rfl, ?_⟩
  refine wg_trip 3 4 5 rfl nd rfl rfl rfl (by walk_at "vis") (by walk_at "vis") (by walk_at "vis") (by decide) (by decide) (by decide) (lt_ rfl) (lt_ rfl) (lt_ rfl) ?_
  refine wb_let h (fun name4 => [.sh ((eRak C_Rack C_Ruler) rack1), .sh ((eP3 eZ eB eI) measuring2), .sh (eI length3), .sh (eZ name4), .sh (eB measuring2.2.1), .sh (eI measuring2.2.2), .no, .no, .no, .no, .no]) rfl fun name4 h => ?_
  refine wb_let h (fun turned5 => [.sh ((eRak C_Rack C_Ruler) rack1), .sh ((eP3 eZ eB eI) measuring2), .sh (eI length3), .sh (eZ name4), .sh (eB turned5), .sh (eI measuring2.2.2), .no, .no, .no, .no, .no]) rfl fun turned5 h => ?_
  refine wb_let h (fun offset6 => [.sh ((eRak C_Rack C_Ruler) rack1), .sh ((eP3 eZ eB eI) measuring2), .sh (eI length3), .sh (eZ name4), .sh (eB turned5), .sh (eI offset6), .no, .no, .no, .no, .no]) rfl fun offset6 h => ?_
  -- 97
  refine wb_cons (ws_set 6 nd rfl (by walk_at "vis") ?_)
  refine we_item x_Rack_getitem hr ?_
  refine we_var 0 rfl (by walk_at "vis") rfl ?_
  refine we_var 3 rfl (by walk_at "vis") rfl ?_
  refine ⟨_, _, _, rfl, rfl, ⟨(rack1, name4), rfl, (Out.nx (Out.sb h)).imp (fun r7 h => ?_) (fun _ he => he)⟩⟩
  refine ⟨lt_ rfl, _, rfl, ?_⟩
  refine wb_env [.sh ((eRak C_Rack C_Ruler) rack1), .sh ((eP3 eZ eB eI) measuring2), .sh (eI length3), .sh (eZ name4), .sh (eB turned5), .sh (eI offset6), .sh ((eRul C_Ruler) r7), .no, .no, .no, .no] rfl ?_
  -- 98
  refine wb_cons (ws_set 7 nd rfl (by walk_at "vis") ?_)
  refine we_ifN (eT eI) ?_
  refine wt_val (fun _ => rfl) ?_
  refine we_var 4 rfl (by walk_at "vis") rfl ?_
  refine ⟨_, rfl, ?_⟩
  refine ⟨_, _, _, _, _, _, h, fun _ Q' h => ?_, fun _ Q' h => ?_, fun i8 h => ?_⟩
  · skip
    refine we_cal tk c_mirrored hr rfl ?_
    refine wa_cons ?_
    refine we_prop cl_Ruler.cls p_Ruler_marks hr ?_
    refine we_var 6 rfl (by walk_at "vis") rfl ?_
    refine ⟨_, rfl, r7, rfl, ?_⟩
    refine ⟨_, _, rfl, ?_⟩
    refine wa_nil ?_
    refine ⟨m_Ruler_marks r7, rfl, (Out.sb h).imp (fun r10 h => ?_) (fun _ he => he)⟩
    exact ⟨_, rfl, rfl, rfl, h⟩
  · skip
    refine we_prop cl_Ruler.cls p_Ruler_marks hr ?_
    refine we_var 6 rfl (by walk_at "vis") rfl ?_
    refine ⟨_, rfl, r7, rfl, ?_⟩
    exact ⟨_, rfl, rfl, rfl, h⟩
  refine ⟨lt_ rfl, _, rfl, ?_⟩
  refine wb_env [.sh ((eRak C_Rack C_Ruler) rack1), .sh ((eP3 eZ eB eI) measuring2), .sh (eI length3), .sh (eZ name4), .sh (eB turned5), .sh (eI offset6), .sh ((eRul C_Ruler) r7), .sh ((eT eI) i8), .no, .no, .no] rfl ?_
  -- 99
  refine wb_cons (ws_set 8 nd rfl (by walk_at "vis") ?_)
  refine we_prop cl_Ruler.cls p_Ruler_error hr ?_
  refine we_var 6 rfl (by walk_at "vis") rfl ?_
  refine ⟨_, rfl, r7, rfl, ?_⟩
  refine ⟨lt_ rfl, _, rfl, ?_⟩
  refine wb_let h (fun error13 => [.sh ((eRak C_Rack C_Ruler) rack1), .sh ((eP3 eZ eB eI) measuring2), .sh (eI length3), .sh (eZ name4), .sh (eB turned5), .sh (eI offset6), .sh ((eRul C_Ruler) r7), .sh ((eT eI) i8), .sh (eI error13), .no, .no]) rfl fun error13 h => ?_
  -- 100
  refine wb_setKcQ [("slip", 10)] 9 rfl hr.units nd rfl rfl (by rfl) (blkOk_by (by rfl)) (kcS_pre [("slip", 10)] [.sh ((eRak C_Rack C_Ruler) rack1), .sh ((eP3 eZ eB eI) measuring2), .sh (eI length3), .sh (eZ name4), .sh (eB turned5), .sh (eI offset6), .sh ((eRul C_Ruler) r7), .sh ((eT eI) i8), .sh (eI error13), .no, .no] (fun _ : Unit => G) (en := eI) (eP eI eB) eB (kyc_of (kye_pair kye_int kye_bool) (fun _ => ⟨_, rfl⟩)) ?_)
  refine wi_rng2 rfl B.range ?_
  refine we_bin ?_
  refine we_int ?_
  refine we_var 8 rfl (by walk_at "vis") rfl ?_
  refine ⟨_, _, .inl rfl, .inl rfl, ?_⟩
  refine opw_sub ?_
  refine we_bin ?_
  refine we_var 8 rfl (by walk_at "vis") rfl ?_
  refine we_int ?_
  refine ⟨_, _, .inl rfl, .inl rfl, ?_⟩
  refine opw_add ?_
  obtain ⟨g15, h⟩ := Out.gd h
  obtain ⟨g16, h⟩ := Out.gd h
  refine ⟨((0 : Int) - error13), (error13 + (1 : Int)), rfl, rfl, g15, g16, ?_⟩
  obtain ⟨g17, h⟩ := Out.gd h
  refine ⟨_, (rgI ((0 : Int) - error13) (error13 + (1 : Int))), (), _, _, _, _, rfl, g17, Wk.refl _, rfl, h, fun s18 x14 Q' h => ?_, fun l19 h => ?_⟩
  · skip
    rintro Y ⟨s1, H1, C1, cl, fp, rfl⟩
    refine wg_name 10 nd rfl (by walk_at "vis") (by decide) (lt_ rfl) ?_
    rintro Y ⟨s1, H1, C1, cl, fp, rfl⟩
    refine we_cal (BlkX.tk ⟨_, _, _, _, _, rfl⟩) c_read_at hr rfl ?_
    refine wa_cons ?_
    refine we_var 7 rfl (by walk_at "vis") rfl ?_
    refine ⟨_, _, rfl, ?_⟩
    refine wa_cons ?_
    refine we_bin ?_
    refine we_bin ?_
    refine we_var 2 rfl (by walk_at "vis") rfl ?_
    refine we_var 5 rfl (by walk_at "vis") rfl ?_
    refine ⟨_, _, .inl rfl, .inl rfl, ?_⟩
    refine opw_sub ?_
    refine we_var 10 rfl (by walk_at "vis") rfl ?_
    refine ⟨_, _, .inl rfl, .inl rfl, ?_⟩
    refine opw_add ?_
    refine ⟨_, _, rfl, ?_⟩
    refine wa_nil ?_
    refine ⟨(i8, (length3 - offset6) + x14), rfl, (Out.nx (Out.sb h)).imp (fun r20 h => ?_) (fun _ he => he)⟩
    refine ⟨r20, rfl, ?_⟩
    rintro Y ⟨s1, H1, C1, cl, fp, rfl⟩
    refine we_bl ?_
    exact ⟨true, (), _, rfl, Wk.refl _, rfl, h⟩
  refine ⟨lt_ rfl, _, rfl, ?_⟩
  refine wb_let h (fun found21 => [.sh ((eRak C_Rack C_Ruler) rack1), .sh ((eP3 eZ eB eI) measuring2), .sh (eI length3), .sh (eZ name4), .sh (eB turned5), .sh (eI offset6), .sh ((eRul C_Ruler) r7), .sh ((eT eI) i8), .sh (eI error13), .own ((eKd w (eP eI eB) eB) found21), .no]) rfl fun found21 h => ?_
  -- 101
  refine wb_cons (ws_ret ?_)
  refine we_b1 (x := "sorted") (id := "sorted") rfl B.sorted bt_sorted ?_
  refine we_var 9 rfl (by walk_at "vis") rfl ?_
  refine ⟨_, .inl rfl, ?_⟩
  refine t_sortedKd (kyc_of (kye_pair kye_int kye_bool) (fun _ => ⟨_, rfl⟩)) (orc_pair orc_int orc_bool) rfl ?_ found21 (so_pair _) ?_
  · exact hr.units
  refine ⟨_, rfl, ?_⟩
  exact h
theorem ok_parted {f : Addr} {fd : FuncData} (F : Fun K "parted" "parted" s_parted f fd) (B : Bn mg) (c_all_results : Cal P w K mg base "all_results" 6 ["rack", "measuring", "length"] (FM cx (A := Rak × ((S × Bool × Int)) × Int) (R := List ((Int × Bool))) (fun a => [(eRak C_Rack C_Ruler) a.1, (eP3 eZ eB eI) a.2.1, eI a.2.2]) (fun v => .fr ((eL (eP eI eB)) v)) (fun a => m_all_results a.1 a.2.1 a.2.2))) : FnOk P w K mg base (L2.CX P w) 8 f fd ["rack", "values", "measuring"] (spD K (FM cx (A := Rak × (List Int) × ((S × Bool × Int))) (R := List ((Int × Bool) × List Int)) (fun a => [(eRak C_Rack C_Ruler) a.1, (eT eI) a.2.1, (eP3 eZ eB eI) a.2.2]) (fun v => .fr ((eKd w (eP eI eB) (eT eI)) v)) (fun a => m_parted a.1 a.2.1 a.2.2))) := by
  refine def_ok F sc_parted (fun ds G post px h => ?_) (fun cdv A outer s H E F0 T hr ds G post px h tk hp => ?_)
  · obtain ⟨_, rfl, _⟩ := h; rfl
  obtain ⟨⟨rack1, values2, measuring3⟩, rfl, h⟩ := h
  unfold m_parted at h
  try dsimp only at h
  have nd := sc_parted.nd
  refine wb_env [.sh ((eRak C_Rack C_Ruler) rack1), .sh ((eT eI) values2), .sh ((eP3 eZ eB eI) measuring3), .no, .no, .no] rfl ?_
  -- 103
  refine wb_cons (ws_set 3 nd rfl (by walk_at "vis") ?_)
  refine we_kdnew ?_
  refine ⟨lt_ rfl, _, rfl, ?_⟩
  refine wb_let h (fun found4 => [.sh ((eRak C_Rack C_Ruler) rack1), .sh ((eT eI) values2), .sh ((eP3 eZ eB eI) measuring3), .own ((eKd w (eP eI eB) (eT eI)) found4), .no, .no]) rfl fun found4 h => ?_
  -- 104
  refine wb_forO (β := List ((Int × Bool) × List Int)) [4] (σT := List ((Int × Bool) × List Int)) (fun s5 => [.sh ((eRak C_Rack C_Ruler) rack1), .sh ((eT eI) values2), .sh ((eP3 eZ eB eI) measuring3), .own ((eKd w (eP eI eB) (eT eI)) s5), .no, .no]) (fun s5 => G) eI hp rfl ?_
  refine ti_tup (f := eI) ?_
  refine we_var 1 rfl (by walk_at "vis") rfl ?_
  refine ⟨values2, _, rfl, fun hl8 => ?_⟩
  refine ⟨values2, found4, _, _, _, _, rfl, (.eq (.eq (.eq (.eq (.no (.no .nil)))))), rfl, h, fun s5 x7 Q' h => ?_, fun s6 h => ?_⟩
  · skip
    refine wg_name 4 nd rfl (by walk_at "vis") (by decide) (lt_ rfl) ?_
    refine wb_env [.sh ((eRak C_Rack C_Ruler) rack1), .sh ((eT eI) values2), .sh ((eP3 eZ eB eI) measuring3), .own ((eKd w (eP eI eB) (eT eI)) s5), .sh (eI x7), .no] rfl ?_
    -- 105
    refine wb_forO (β := (List ((Int × Bool) × List Int))) [5] (σT := List ((Int × Bool) × List Int)) (fun s9 => [.sh ((eRak C_Rack C_Ruler) rack1), .sh ((eT eI) values2), .sh ((eP3 eZ eB eI) measuring3), .own ((eKd w (eP eI eB) (eT eI)) s9), .sh (eI x7), .no]) (fun s9 => G) (eP eI eB) hp rfl ?_
    refine ti_lst (f := (eP eI eB)) ?_
    refine we_cal tk c_all_results hr rfl ?_
    refine wa_cons ?_
    refine we_var 0 rfl (by walk_at "vis") rfl ?_
    refine ⟨_, _, rfl, ?_⟩
    refine wa_cons ?_
    refine we_var 2 rfl (by walk_at "vis") rfl ?_
    refine ⟨_, _, rfl, ?_⟩
    refine wa_cons ?_
    refine we_var 4 rfl (by walk_at "vis") rfl ?_
    refine ⟨_, _, rfl, ?_⟩
    refine wa_nil ?_
    refine ⟨(rack1, measuring3, x7), rfl, (Out.sb h).imp (fun r12 h => ?_) (fun _ he => he)⟩
    refine ⟨r12, _, rfl, fun hl13 => ?_⟩
    refine ⟨r12, s5, _, _, _, _, rfl, (.eq (.eq (.eq (.eq (.eq (.no .nil)))))), rfl, h, fun s9 x11 Q' h => ?_, fun s10 h => ?_⟩
    · skip
      refine wg_name 5 nd rfl (by walk_at "vis") (by decide) (lt_ rfl) ?_
      refine wb_env [.sh ((eRak C_Rack C_Ruler) rack1), .sh ((eT eI) values2), .sh ((eP3 eZ eB eI) measuring3), .own ((eKd w (eP eI eB) (eT eI)) s9), .sh (eI x7), .sh ((eP eI eB) x11)] rfl ?_
      -- 106
      refine wb_cons (ws_kdput (ek := (eP eI eB)) (f := (eT eI)) (kyc_of (kye_pair kye_int kye_bool) (fun _ => ⟨_, rfl⟩)) hr.units ?_)
      refine we_bin ?_
      refine we_kdgetT (ek := (eP eI eB)) (f := (eT eI)) (kyc_of (kye_pair kye_int kye_bool) (fun _ => ⟨_, rfl⟩)) hr.units ?_
      refine we_var 3 rfl (by walk_at "vis") rfl ?_
      refine ⟨s9, .inl rfl, ?_⟩
      refine we_var 5 rfl (by walk_at "vis") rfl ?_
      refine ⟨x11, rfl, ?_⟩
      refine we_tup ?_
      refine wa_nil ?_
      refine ⟨by decide, ?_⟩
      refine ⟨([] : List Int), _, s9, rfl, .inl rfl, ?_⟩
      refine we_tup ?_
      refine wa_cons ?_
      refine we_var 4 rfl (by walk_at "vis") rfl ?_
      refine ⟨_, _, rfl, ?_⟩
      refine wa_nil ?_
      refine ⟨lt_ rfl, ?_⟩
      obtain ⟨g14, h⟩ := Out.gd h
      refine ⟨_, _, .inl rfl, .inl rfl, ?_⟩
      refine t_catT (f := eI) ((dget s9 x11).getD ([] : List Int)) [x7] g14 ?_
      refine ⟨(((dget s9 x11).getD ([] : List Int)) ++ [x7]), _, rfl, ?_⟩
      refine we_var 3 rfl (by walk_at "vis") rfl ?_
      refine ⟨_, rfl, ?_⟩
      refine we_var 5 rfl (by walk_at "vis") rfl ?_
      obtain ⟨g15, h⟩ := Out.gd h
      refine ⟨s9, x11, rfl, rfl, g15, ?_⟩
      refine wb_let h (fun found16 => [.sh ((eRak C_Rack C_Ruler) rack1), .sh ((eT eI) values2), .sh ((eP3 eZ eB eI) measuring3), .own ((eKd w (eP eI eB) (eT eI)) found16), .sh (eI x7), .sh ((eP eI eB) x11)]) rfl fun found16 h => ?_
      exact wb_nil ⟨found16, (.eq (.eq (.eq (.eq (.eq (.no .nil)))))), rfl, h⟩
    exact wb_nil ⟨s10, (.eq (.eq (.eq (.eq (.no (.no .nil)))))), rfl, h⟩
  -- 107
  refine wb_cons (ws_ret ?_)
  refine we_var 3 rfl (by walk_at "vis") rfl ?_
  refine ⟨_, rfl, ?_⟩
  exact h
theorem ok_next_measuring {f : Addr} {fd : FuncData} (F : Fun K "next_measuring" "next_measuring" s_next_measuring f fd) (B : Bn mg) (c_parted : Cal P w K mg base "parted" 8 ["rack", "values", "measuring"] (FM cx (A := Rak × (List Int) × ((S × Bool × Int))) (R := List ((Int × Bool) × List Int)) (fun a => [(eRak C_Rack C_Ruler) a.1, (eT eI) a.2.1, (eP3 eZ eB eI) a.2.2]) (fun v => .fr ((eKd w (eP eI eB) (eT eI)) v)) (fun a => m_parted a.1 a.2.1 a.2.2))) (c_validate_lengths_of_things_t : Cal P w K mg base "validate_lengths_of_things" 5 ["values"] (FM cx (A := List Int) (R := Unit) (fun a => [(eT eI) a]) (fun v => .sh (eU v)) (fun a => m_validate_lengths_of_things_t a))) (c_validate_measurings : Cal P w K mg base "validate_measurings" 6 ["rack", "measurings"] (FM cx (A := Rak × (List ((S × Bool × Int)))) (R := Unit) (fun a => [(eRak C_Rack C_Ruler) a.1, (eL (eP3 eZ eB eI)) a.2]) (fun v => .sh (eU v)) (fun a => m_validate_measurings a.1 a.2))) : FnOk P w K mg base (L2.CX P w) 10 f fd ["rack", "lengths", "measurings"] (spD K (FM cx (A := Rak × (List Int) × (List ((S × Bool × Int)))) (R := Option (Int)) (fun a => [(eRak C_Rack C_Ruler) a.1, (eT eI) a.2.1, (eL (eP3 eZ eB eI)) a.2.2]) (fun v => .sh ((eO eI) v)) (fun a => m_next_measuring a.1 a.2.1 a.2.2))) := by
  refine def_ok F sc_next_measuring (fun ds G post px h => ?_) (fun cdv A outer s H E F0 T hr ds G post px h tk hp => ?_)
  · obtain ⟨_, rfl, _⟩ := h; rfl
  obtain ⟨⟨rack1, lengths2, measurings3⟩, rfl, h⟩ := h
  unfold m_next_measuring at h
  try dsimp only at h
  have nd := sc_next_measuring.nd
  refine wb_env [.sh ((eRak C_Rack C_Ruler) rack1), .sh ((eT eI) lengths2), .sh ((eL (eP3 eZ eB eI)) measurings3), .no, .no, .no] rfl ?_
  -- 109
  refine wb_cons (ws_expr ?_)
  refine we_cal tk c_validate_measurings hr rfl ?_
  refine wa_cons ?_
  refine we_var 0 rfl (by walk_at "vis") rfl ?_
  refine ⟨_, _, rfl, ?_⟩
  refine wa_cons ?_
  refine we_var 2 rfl (by walk_at "vis") rfl ?_
  refine ⟨_, _, rfl, ?_⟩
  refine wa_nil ?_
  refine ⟨(rack1, measurings3), rfl, (Out.sb h).imp (fun r4 h => ?_) (fun _ he => he)⟩
  -- 110
  refine wb_cons (ws_expr ?_)
  refine we_cal tk c_validate_lengths_of_things_t hr rfl ?_
  refine wa_cons ?_
  refine we_var 1 rfl (by walk_at "vis") rfl ?_
  refine ⟨_, _, rfl, ?_⟩
  refine wa_nil ?_
  refine ⟨lengths2, rfl, (Out.sb h).imp (fun r5 h => ?_) (fun _ he => he)⟩
  -- 111
  refine wb_cons (ws_if ?_)
  refine wt_w ?_
  refine ww_orB ?_
  refine wt_cmp (nomark _) ?_
  refine we_b1 (x := "len") (id := "len") rfl B.len bt_len ?_
  refine we_var 1 rfl (by walk_at "vis") rfl ?_
  refine ⟨_, .inl rfl, ?_⟩
  refine t_lenT (f := eI) lengths2 ?_
  refine we_int ?_
  refine ⟨_, _, .inl rfl, .inl rfl, ?_⟩
  refine opw_eqI ?_
  refine ⟨_, rfl, ?_⟩
  refine ⟨(decide (measurings3 = ([] : List ((S × Bool × Int))))), fun _ => ?_, ?_⟩
  · skip
    refine ww_or1 ?_
    refine wt_cmp (nomark _) ?_
    refine we_var 2 rfl (by walk_at "vis") rfl ?_
    refine we_lst ?_
    refine wa_nil ?_
    refine ⟨by decide, ?_⟩
    refine ⟨_, _, .inl rfl, .inl rfl, ?_⟩
    refine opw_eqC (eqc_lst (eqc_trip eqc_str eqc_bool eqc_int)) hr.units measurings3 ([] : List ((S × Bool × Int))) ?_
    refine ⟨_, rfl, ?_⟩
    exact ⟨rfl, rfl, rfl⟩
  refine ⟨fun hc => ?_, fun hc => ?_⟩
  · skip
    have h := (Out.iteb h).1 hc
    -- 112
    refine wb_cons (ws_ret ?_)
    refine we_non ?_
    refine ⟨_, rfl, ?_⟩
    exact h
  have h := (Out.iteb h).2 hc
  refine wb_nil ?_
  -- 113
  refine wb_cons (ws_set 3 nd rfl (by walk_at "vis") ?_)
  refine we_lst ?_
  refine wa_nil ?_
  refine ⟨by decide, ?_⟩
  refine ⟨lt_ rfl, _, rfl, ?_⟩
  refine wb_let h (fun worst6 => [.sh ((eRak C_Rack C_Ruler) rack1), .sh ((eT eI) lengths2), .sh ((eL (eP3 eZ eB eI)) measurings3), .own ((eL eI) worst6), .no, .no]) rfl fun worst6 h => ?_
  -- 114
  refine wb_forO (β := Option (Int)) [4] (σT := List Int) (fun s7 => [.sh ((eRak C_Rack C_Ruler) rack1), .sh ((eT eI) lengths2), .sh ((eL (eP3 eZ eB eI)) measurings3), .own ((eL eI) s7), .no, .no]) (fun s7 => G) (eP3 eZ eB eI) hp rfl ?_
  refine ti_lst (f := (eP3 eZ eB eI)) ?_
  refine we_var 2 rfl (by walk_at "vis") rfl ?_
  refine ⟨measurings3, _, rfl, fun hl10 => ?_⟩
  refine ⟨measurings3, worst6, _, _, _, _, rfl, (.eq (.eq (.eq (.eq (.no (.no .nil)))))), rfl, h, fun s7 x9 Q' h => ?_, fun s8 h => ?_⟩
  · skip
    refine wg_name 4 nd rfl (by walk_at "vis") (by decide) (lt_ rfl) ?_
    refine wb_env [.sh ((eRak C_Rack C_Ruler) rack1), .sh ((eT eI) lengths2), .sh ((eL (eP3 eZ eB eI)) measurings3), .own ((eL eI) s7), .sh ((eP3 eZ eB eI) x9), .no] rfl ?_
    -- 115
    refine wb_cons (ws_expr ?_)
    refine we_appendT (f := eI) ?_
    refine we_var 3 rfl (by walk_at "vis") rfl ?_
    refine ⟨_, s7, rfl, rfl, ?_⟩
    refine we_b1 (x := "max") (id := "max") rfl B.max bt_max ?_
    refine we_lcQ [("some", 5)] rfl nd (blkOk_by (by rfl)) (lc0_pre [("some", 5)] [.sh ((eRak C_Rack C_Ruler) rack1), .sh ((eT eI) lengths2), .sh ((eL (eP3 eZ eB eI)) measurings3), .own ((eL eI) s7), .sh ((eP3 eZ eB eI) x9), .no] (en := (eT eI)) eI (fun (x12 : List Int) => ((x12).length : Int)) ?_)
    refine ti_valuesK (ek := (eP eI eB)) (f := (eT eI)) ?_
    refine we_lockK ?_
    refine we_cal tk c_parted hr rfl ?_
    refine wa_cons ?_
    refine we_var 0 rfl (by walk_at "vis") rfl ?_
    refine ⟨_, _, rfl, ?_⟩
    refine wa_cons ?_
    refine we_var 1 rfl (by walk_at "vis") rfl ?_
    refine ⟨_, _, rfl, ?_⟩
    refine wa_cons ?_
    refine we_var 4 rfl (by walk_at "vis") rfl ?_
    refine ⟨_, _, rfl, ?_⟩
    refine wa_nil ?_
    refine ⟨(rack1, lengths2, x9), rfl, (Out.sb h).imp (fun r13 h => ?_) (fun _ he => he)⟩
    refine ⟨_, _, _, rfl, ?_⟩
    refine ⟨r13, _, rfl, fun hl14 => ?_⟩
    refine ⟨(r13.map (·.2)), rfl, hl14, Wk.refl _, fun x12 => ?_, ?_⟩
    · skip
      rintro Y ⟨s1, H1, C1, cl, fp, rfl⟩
      refine wg_name 5 nd rfl (by walk_at "vis") (by decide) (lt_ rfl) ?_
      rintro Y ⟨s1, H1, C1, cl, fp, rfl⟩
      refine we_b1 (x := "len") (id := "len") rfl B.len bt_len ?_
      refine we_var 5 rfl (by walk_at "vis") rfl ?_
      refine ⟨_, .inl rfl, ?_⟩
      refine t_lenT (f := eI) x12 ?_
      exact ⟨_, rfl, Wk.refl _, rfl⟩
    refine ⟨_, .inl rfl, ?_⟩
    obtain ⟨x15, hx15, h⟩ := Out.gt h
    refine t_max rfl hx15 ?_
    obtain ⟨g16, h⟩ := Out.gd h
    refine ⟨x15, _, s7, rfl, rfl, g16, ?_⟩
    refine wb_let h (fun worst17 => [.sh ((eRak C_Rack C_Ruler) rack1), .sh ((eT eI) lengths2), .sh ((eL (eP3 eZ eB eI)) measurings3), .own ((eL eI) worst17), .sh ((eP3 eZ eB eI) x9), .no]) rfl fun worst17 h => ?_
    exact wb_nil ⟨worst17, (.eq (.eq (.eq (.eq (.no (.no .nil)))))), rfl, h⟩
  -- 116
  refine wb_cons (ws_ret ?_)
  refine we_index ?_
  refine we_var 3 rfl (by walk_at "vis") rfl ?_
  refine ⟨_, .inl rfl, ?_⟩
  refine we_b1 (x := "min") (id := "min") rfl B.min bt_min ?_
  refine we_var 3 rfl (by walk_at "vis") rfl ?_
  refine ⟨_, .inl rfl, ?_⟩
  obtain ⟨x18, hx18, h⟩ := Out.gt h
  refine t_min rfl hx18 ?_
  refine ⟨_, _, .inl rfl, .inl rfl, ?_⟩
  obtain ⟨x19, hx19, h⟩ := Out.gt h
  refine t_index hx19 ?_
  refine ⟨_, rfl, ?_⟩
  exact h
theorem ok_Settler_init {f : Addr} {fd : FuncData} (F : Fun K "__init__" "Settler.__init__" s_Settler_init f fd) (B : Bn mg) (cl_Settler : Clo_Settler K C_Settler) : FnOk P w K mg base (L2.CX P w) 3 f fd ["self", "rack"] (spD K (FIO cx C_Settler ns_Settler (σT := S_Settler) (A := Rak) (fl_Settler w C_Ruler C_Rack) (fun a => [(eRak C_Rack C_Ruler) a]) (fun a => mk_Settler a))) := by
  refine def_ok F sc_Settler_init (fun ds G post px h => ?_) (fun cdv A outer s H E F0 T hr ds G post px h tk hp => ?_)
  · obtain ⟨_, _, _, _, rfl, _⟩ := h; rfl
  obtain ⟨rack1, o, dx, GI, rfl, hG, hi1, hi2, hi3, h⟩ := h
  have hP : obA C_Settler o [] [] [o] G := by rw [hG]; exact obA_new
  have hF : Frm [] GI [o] G := by rw [hG]; exact frm_new hi1 hi2
  unfold mk_Settler at h
  try dsimp only at h
  have nd := sc_Settler_init.nd
  refine wb_env [.sh (.adr o), .sh ((eRak C_Rack C_Ruler) rack1)] rfl ?_
  -- 120
  refine wb_cons (ws_fldA (ns := []) (fs := []) cl_Settler.cls cl_Settler.n_rack_used (by decide) ?_)
  refine we_var 1 rfl (by walk_at "vis") rfl ?_
  refine ⟨_, _, rfl, ?_⟩
  refine we_var 0 rfl (by walk_at "vis") rfl ?_
  refine ⟨_, _, rfl, hP, fun fp1 G2 hP1 hF1 => ?_⟩
  have hP : obA C_Settler o ["rack_used"] [.sh ((eRak C_Rack C_Ruler) rack1)] _ G2 := hP1
  have hF := hF.trans hF1
  refine wb_env [.sh (.adr o), .sh ((eRak C_Rack C_Ruler) rack1)] rfl ?_
  -- 121
  refine wb_cons (ws_fldND (ns := ["rack_used"]) (fs := [.sh ((eRak C_Rack C_Ruler) rack1)]) cl_Settler.cls cl_Settler.n_known (by decide) ?_)
  refine we_kdnew ?_
  refine ⟨_, rfl, fun a4 ha4 => ?_⟩
  refine we_var 0 rfl (by walk_at "vis") rfl ?_
  refine ⟨_, _, rfl, rfl, hP, fun fp1 G3 hP1 hF1 => ?_⟩
  have hP : obA C_Settler o ["rack_used", "known"] [.sh ((eRak C_Rack C_Ruler) rack1), .mo ((eKd w (eP3 (eT eI) (eT (eP3 eZ eB eI)) eI) eB) ([] : List ((List Int × List ((S × Bool × Int)) × Int) × Bool)))] _ G3 := hP1
  have hF := hF.trans hF1
  refine wb_env [.sh (.adr o), .sh ((eRak C_Rack C_Ruler) rack1)] rfl ?_
  exact wb_nil (h _ _ hP hF)
theorem ok_Settler_has_good {n lr : Nat} {rec_ : S_Settler → (List Int) → (List ((S × Bool × Int))) → Int → Out (Bool × S_Settler)} {f : Addr} {fd : FuncData} (F : Fun K "has_good" "Settler.has_good" s_Settler_has_good f fd) (B : Bn mg) (c_parted : Cal P w K mg base "parted" 8 ["rack", "values", "measuring"] (FM cx (A := Rak × (List Int) × ((S × Bool × Int))) (R := List ((Int × Bool) × List Int)) (fun a => [(eRak C_Rack C_Ruler) a.1, (eT eI) a.2.1, (eP3 eZ eB eI) a.2.2]) (fun v => .fr ((eKd w (eP eI eB) (eT eI)) v)) (fun a => m_parted a.1 a.2.1 a.2.2))) (cl_Settler : Clo_Settler K C_Settler) (d_Settler_is_settled : MethD P w K mg base C_Settler "is_settled" (lr + 4 * n) ["self", "values", "measurings", "count"] (FMO cx C_Settler ns_Settler (σT := S_Settler) (A := (List Int) × (List ((S × Bool × Int))) × Int) (R := Bool) (fl_Settler w C_Ruler C_Rack) (fun a => [(eT eI) a.1, (eT (eP3 eZ eB eI)) a.2.1, eI a.2.2]) (fun v => .sh (eB v)) (fun s a => rec_ s a.1 a.2.1 a.2.2))) (hlr : 10 ≤ lr) : FnOk P w K mg base (L2.CX P w) (lr + 4 * n + 2) f fd ["self", "values", "measurings", "count"] (spD K (FMO cx C_Settler ns_Settler (σT := S_Settler) (A := (List Int) × (List ((S × Bool × Int))) × Int) (R := Bool) (fl_Settler w C_Ruler C_Rack) (fun a => [(eT eI) a.1, (eT (eP3 eZ eB eI)) a.2.1, eI a.2.2]) (fun v => .sh (eB v)) (fun s a => m_Settler_has_good rec_ s a.1 a.2.1 a.2.2))) := by
  refine def_ok F sc_Settler_has_good (fun ds G post px h => ?_) (fun cdv A outer s H E F0 T hr ds GI post px h tk hp => ?_)
  · obtain ⟨_, _, _, _, rfl, _⟩ := h; rfl
  obtain ⟨self1, ⟨values2, measurings3, count4⟩, o, fpI, rfl, hP, h⟩ := h
  have hF := Frm.refl fpI GI
  replace hr := (show Room (lr + 4 * n + 1) _ from hr)
  unfold m_Settler_has_good at h
  try dsimp only at h
  have nd := sc_Settler_has_good.nd
  refine wb_env [.sh (.adr o), .sh ((eT eI) values2), .sh ((eT (eP3 eZ eB eI)) measurings3), .sh (eI count4), .no, .no, .no, .no, .no] rfl ?_
  -- 134
  refine wb_forRG (β := (Bool × S_Settler)) [4, 5] (σT := Rak × (List ((List Int × List ((S × Bool × Int)) × Int) × Bool))) (ρ := (Bool × S_Settler)) (fun s5 => [.sh (.adr o), .sh ((eT eI) values2), .sh ((eT (eP3 eZ eB eI)) measurings3), .sh (eI count4), .no, .no, .no, .no, .no]) (fun s5 G' => ∃ fp', obA C_Settler o ["rack_used", "known"] [.sh ((eRak C_Rack C_Ruler) s5.1), .mo ((eKd w (eP3 (eT eI) (eT (eP3 eZ eB eI)) eI) eB) s5.2)] fp' G' ∧ Frm fpI GI fp' G') (eP eI (eP3 eZ eB eI)) (fun v => (fun v => .sh (eB v)) v.1) (fun v G' => ∃ fp', obA C_Settler o ns_Settler (fl_Settler w C_Ruler C_Rack v.2) fp' G' ∧ Frm fpI GI fp' G') hp rfl ?_
  refine ti_enumT (f := (eP3 eZ eB eI)) rfl B.enumerate ?_
  refine we_var 2 rfl (by walk_at "vis") rfl ?_
  refine ⟨measurings3, _, rfl, fun hl8 => ?_⟩
  refine ⟨(penum measurings3), (self1.rack_used, self1.known), _, _, _, _, rfl, (.eq (.eq (.eq (.eq (.no (.no (.no (.no (.no .nil))))))))), ⟨_, hP, hF⟩, h, fun s5 G9 x7 Q' hg h => ?_, (fun v G' hg h => let ⟨_, hP, hF⟩ := hg; h _ _ hP hF), fun s6 G10 hg h => ?_⟩
  · skip
    obtain ⟨fp, hP, hF⟩ := hg
    refine wg_pair 4 5 rfl nd rfl rfl (by walk_at "vis") (by walk_at "vis") (by decide) (by decide) (lt_ rfl) (lt_ rfl) ?_
    refine wb_env [.sh (.adr o), .sh ((eT eI) values2), .sh ((eT (eP3 eZ eB eI)) measurings3), .sh (eI count4), .sh (eI x7.1), .sh ((eP3 eZ eB eI) x7.2), .no, .no, .no] rfl ?_
    -- 135
    refine wb_cons (ws_set 6 nd rfl (by walk_at "vis") ?_)
    refine we_bin ?_
    refine we_slice ?_
    refine we_var 2 rfl (by walk_at "vis") rfl ?_
    refine wo_none ?_
    refine wo_some ?_
    refine we_var 4 rfl (by walk_at "vis") rfl ?_
    refine ⟨_, rfl, ?_⟩
    refine ⟨_, .inl rfl, ?_⟩
    refine t_slT (f := (eP3 eZ eB eI)) (xs := measurings3) ?_
    refine we_slice ?_
    refine we_var 2 rfl (by walk_at "vis") rfl ?_
    refine wo_some ?_
    refine we_bin ?_
    refine we_var 4 rfl (by walk_at "vis") rfl ?_
    refine we_int ?_
    refine ⟨_, _, .inl rfl, .inl rfl, ?_⟩
    refine opw_add ?_
    refine ⟨_, rfl, ?_⟩
    refine wo_none ?_
    refine ⟨_, .inl rfl, ?_⟩
    refine t_slT (f := (eP3 eZ eB eI)) (xs := measurings3) ?_
    obtain ⟨g12, h⟩ := Out.gd h
    refine ⟨_, _, .inl rfl, .inl rfl, ?_⟩
    refine t_catT (f := (eP3 eZ eB eI)) (pcut measurings3 none (some x7.1)) (pcut measurings3 (some (x7.1 + (1 : Int))) none) g12 ?_
    refine ⟨lt_ rfl, _, rfl, ?_⟩
    refine wb_let h (fun rest13 => [.sh (.adr o), .sh ((eT eI) values2), .sh ((eT (eP3 eZ eB eI)) measurings3), .sh (eI count4), .sh (eI x7.1), .sh ((eP3 eZ eB eI) x7.2), .sh ((eT (eP3 eZ eB eI)) rest13), .no, .no]) rfl fun rest13 h => ?_
    -- 136
    refine wb_cons (ws_set 7 nd rfl (by walk_at "vis") ?_)
    refine we_listValsK (ek := (eP eI eB)) (f := (eT eI)) rfl rfl B.list ?_
    refine we_lockK ?_
    refine we_cal tk c_parted hr rfl ?_
    refine wa_cons ?_
    refine we_fldA (ns := ["rack_used", "known"]) (fs := [.sh ((eRak C_Rack C_Ruler) s5.1), .mo ((eKd w (eP3 (eT eI) (eT (eP3 eZ eB eI)) eI) eB) s5.2)]) cl_Settler.cls cl_Settler.n_rack_used rfl ?_
    refine we_var 0 rfl (by walk_at "vis") rfl ?_
    refine ⟨_, _, rfl, hP, ?_⟩
    refine ⟨_, _, rfl, ?_⟩
    refine wa_cons ?_
    refine we_var 1 rfl (by walk_at "vis") rfl ?_
    refine ⟨_, _, rfl, ?_⟩
    refine wa_cons ?_
    refine we_var 5 rfl (by walk_at "vis") rfl ?_
    refine ⟨_, _, rfl, ?_⟩
    refine wa_nil ?_
    refine ⟨(s5.1, values2, x7.2), rfl, (Out.nx (Out.sb h)).imp (fun r14 h => ?_) (fun _ (he : False) => he.elim)⟩
    refine ⟨_, _, _, rfl, ?_⟩
    refine ⟨r14, _, rfl, fun _ => ?_⟩
    refine ⟨lt_ rfl, _, rfl, ?_⟩
    refine wb_let h (fun parts15 => [.sh (.adr o), .sh ((eT eI) values2), .sh ((eT (eP3 eZ eB eI)) measurings3), .sh (eI count4), .sh (eI x7.1), .sh ((eP3 eZ eB eI) x7.2), .sh ((eT (eP3 eZ eB eI)) rest13), .own ((eL (eT eI)) parts15), .no]) rfl fun parts15 h => ?_
    -- 137
    refine wb_cons (ws_if ?_)
    refine wt_val (fun _ => rfl) ?_
    refine we_b1 (x := "all") (id := "all") rfl B.all bt_all ?_
    refine we_lcQ [("some", 8)] rfl nd (blkOk_by (by rfl)) (lcSG_pre (γ := (Out.Rt (Rak × (List ((List Int × List ((S × Bool × Int)) × Int) × Bool))) (Bool × S_Settler))) [("some", 8)] [.sh (.adr o), .sh ((eT eI) values2), .sh ((eT (eP3 eZ eB eI)) measurings3), .sh (eI count4), .sh (eI x7.1), .sh ((eP3 eZ eB eI) x7.2), .sh ((eT (eP3 eZ eB eI)) rest13), .sh ((eL (eT eI)) parts15), .no] (fun (s16 : S_Settler) G' => ∃ fp', obA C_Settler o ns_Settler (fl_Settler w C_Ruler C_Rack s16) fp' G' ∧ Frm fpI GI fp' G') (en := (eT eI)) eB ?_)
    refine ti_lst (f := (eT eI)) ?_
    refine we_var 7 rfl (by walk_at "vis") rfl ?_
    refine ⟨parts15, _, rfl, fun hl21 => ?_⟩
    refine ⟨parts15, (⟨s5.1, s5.2⟩ : S_Settler), _, _, _, _, rfl, hl21, Wk.refl _, ⟨_, hP, hF⟩, h, fun s16 x17 G19 Q' hg h => ?_, fun l18 G20 hg h => ?_⟩
    · skip
      obtain ⟨fp, hP, hF⟩ := hg
      rintro Y ⟨s1, H1, C1, cl, fp, rfl⟩
      refine wg_name 8 nd rfl (by walk_at "vis") (by decide) (lt_ rfl) ?_
      rintro Y ⟨s1, H1, C1, cl, fp, rfl⟩
      refine we_methM (BlkX.tk ⟨_, _, _, _, _, rfl⟩) cl_Settler.cls d_Settler_is_settled hr rfl ?_
      refine we_var 0 rfl (by walk_at "vis") rfl ?_
      refine ⟨s16, _, _, rfl, hP, ?_⟩
      refine wa_cons ?_
      refine we_var 8 rfl (by walk_at "vis") rfl ?_
      refine ⟨_, _, rfl, ?_⟩
      refine wa_cons ?_
      refine we_var 6 rfl (by walk_at "vis") rfl ?_
      refine ⟨_, _, rfl, ?_⟩
      refine wa_cons ?_
      refine we_bin ?_
      refine we_var 3 rfl (by walk_at "vis") rfl ?_
      refine we_int ?_
      refine ⟨_, _, .inl rfl, .inl rfl, ?_⟩
      refine opw_sub ?_
      refine ⟨_, _, rfl, ?_⟩
      refine wa_nil ?_
      refine ⟨(x17, rest13, count4 - (1 : Int)), _, rfl, hP, (Out.nx (Out.sb h)).imp (fun r22 h fp1 G23 hP1 hF1 => ?_) (fun _ (he : False) => he.elim)⟩
      have hP : obA C_Settler o ns_Settler (fl_Settler w C_Ruler C_Rack r22.2) _ G23 := hP1
      have hF := hF.trans hF1
      exact ⟨r22.1, r22.2, _, rfl, Wk.refl _, ⟨_, hP, hF⟩, h⟩
    obtain ⟨fp, hP, hF⟩ := hg
    refine ⟨_, .inl rfl, ?_⟩
    refine c_all (xs := l18.1) rfl ?_
    refine ⟨_, rfl, ?_⟩
    refine ⟨fun hc => ?_, fun hc => ?_⟩
    · skip
      have h := (Out.iteb h).1 hc
      -- 138
      refine wb_cons (ws_ret ?_)
      refine we_bl ?_
      refine ⟨_, rfl, ?_⟩
      exact ⟨(true, l18.2), rfl, ⟨_, hP, hF⟩, h⟩
    have h := (Out.iteb h).2 hc
    refine wb_nil ?_
    exact wb_nil ⟨(l18.2.rack_used, l18.2.known), (.eq (.eq (.eq (.eq (.no (.no (.no (.no (.no .nil))))))))), ⟨_, hP, hF⟩, h⟩
  obtain ⟨fp, hP, hF⟩ := hg
  -- 139
  refine wb_cons (ws_ret ?_)
  refine we_bl ?_
  refine ⟨_, rfl, ?_⟩
  exact h _ _ hP hF
theorem ok_Settler_is_settled_zero {f : Addr} {fd : FuncData} (F : Fun K "is_settled" "Settler.is_settled" s_Settler_is_settled f fd) (B : Bn mg) : FnOk P w K mg base (L2.CX P w) (10 + 4 * 0) f fd ["self", "values", "measurings", "count"] (spD K (FMO cx C_Settler ns_Settler (σT := S_Settler) (A := (List Int) × (List ((S × Bool × Int))) × Int) (R := Bool) (fl_Settler w C_Ruler C_Rack) (fun a => [(eT eI) a.1, (eT (eP3 eZ eB eI)) a.2.1, eI a.2.2]) (fun v => .sh (eB v)) (fun s a => m_Settler_is_settled 0 s a.1 a.2.1 a.2.2))) := by
  refine def_ok F sc_Settler_is_settled (fun ds G post px h => ?_) (fun cdv A outer s H E F0 T hr ds G post px h tk hp => ?_)
  · obtain ⟨_, _, _, _, rfl, _⟩ := h; rfl
  obtain ⟨_, _, _, _, _, _, h⟩ := h; unfold m_Settler_is_settled at h; exact h.elim
theorem ok_Settler_is_settled {n : Nat} {f : Addr} {fd : FuncData} (F : Fun K "is_settled" "Settler.is_settled" s_Settler_is_settled f fd) (B : Bn mg) (cl_Settler : Clo_Settler K C_Settler) (d_Settler_has_good : MethD P w K mg base C_Settler "has_good" (10 + 4 * n + 2) ["self", "values", "measurings", "count"] (FMO cx C_Settler ns_Settler (σT := S_Settler) (A := (List Int) × (List ((S × Bool × Int))) × Int) (R := Bool) (fl_Settler w C_Ruler C_Rack) (fun a => [(eT eI) a.1, (eT (eP3 eZ eB eI)) a.2.1, eI a.2.2]) (fun v => .sh (eB v)) (fun s a => m_Settler_has_good (m_Settler_is_settled n) s a.1 a.2.1 a.2.2))) : FnOk P w K mg base (L2.CX P w) (10 + 4 * (n + 1)) f fd ["self", "values", "measurings", "count"] (spD K (FMO cx C_Settler ns_Settler (σT := S_Settler) (A := (List Int) × (List ((S × Bool × Int))) × Int) (R := Bool) (fl_Settler w C_Ruler C_Rack) (fun a => [(eT eI) a.1, (eT (eP3 eZ eB eI)) a.2.1, eI a.2.2]) (fun v => .sh (eB v)) (fun s a => m_Settler_is_settled (n + 1) s a.1 a.2.1 a.2.2))) := by
  refine def_ok F sc_Settler_is_settled (fun ds G post px h => ?_) (fun cdv A outer s H E F0 T hr ds GI post px h tk hp => ?_)
  · obtain ⟨_, _, _, _, rfl, _⟩ := h; rfl
  obtain ⟨self1, ⟨values2, measurings3, count4⟩, o, fpI, rfl, hP, h⟩ := h
  have hF := Frm.refl fpI GI
  replace hr := (show Room (10 + 4 * n + 3) _ from hr)
  unfold m_Settler_is_settled at h
  try dsimp only at h
  have nd := sc_Settler_is_settled.nd
  refine wb_env [.sh (.adr o), .sh ((eT eI) values2), .sh ((eT (eP3 eZ eB eI)) measurings3), .sh (eI count4), .no] rfl ?_
  -- 124
  refine wb_cons (ws_if ?_)
  refine wt_cmp (nomark _) ?_
  refine we_b1 (x := "len") (id := "len") rfl B.len bt_len ?_
  refine we_var 1 rfl (by walk_at "vis") rfl ?_
  refine ⟨_, .inl rfl, ?_⟩
  refine t_lenT (f := eI) values2 ?_
  refine we_int ?_
  refine ⟨_, _, .inl rfl, .inl rfl, ?_⟩
  refine opw_lt ?_
  refine ⟨_, rfl, ?_⟩
  refine ⟨fun hc => ?_, fun hc => ?_⟩
  · skip
    have h := (Out.iteb h).1 hc
    -- 125
    refine wb_cons (ws_ret ?_)
    refine we_bl ?_
    refine ⟨_, rfl, ?_⟩
    exact h _ _ hP hF
  have h := (Out.iteb h).2 hc
  refine wb_nil ?_
  -- 126
  refine wb_cons (ws_if ?_)
  refine wt_cmp (nomark _) ?_
  refine we_var 3 rfl (by walk_at "vis") rfl ?_
  refine we_int ?_
  refine ⟨_, _, .inl rfl, .inl rfl, ?_⟩
  refine opw_eqI ?_
  refine ⟨_, rfl, ?_⟩
  refine ⟨fun hc => ?_, fun hc => ?_⟩
  · skip
    have h := (Out.iteb h).1 hc
    -- 127
    refine wb_cons (ws_ret ?_)
    refine we_bl ?_
    refine ⟨_, rfl, ?_⟩
    exact h _ _ hP hF
  have h := (Out.iteb h).2 hc
  refine wb_nil ?_
  -- 128
  refine wb_cons (ws_set 4 nd rfl (by walk_at "vis") ?_)
  refine we_tup ?_
  refine wa_cons ?_
  refine we_var 1 rfl (by walk_at "vis") rfl ?_
  refine ⟨_, _, rfl, ?_⟩
  refine wa_cons ?_
  refine we_var 2 rfl (by walk_at "vis") rfl ?_
  refine ⟨_, _, rfl, ?_⟩
  refine wa_cons ?_
  refine we_var 3 rfl (by walk_at "vis") rfl ?_
  refine ⟨_, _, rfl, ?_⟩
  refine wa_nil ?_
  refine ⟨lt_ rfl, ?_⟩
  refine ⟨lt_ rfl, _, rfl, ?_⟩
  refine wb_let h (fun key5 => [.sh (.adr o), .sh ((eT eI) values2), .sh ((eT (eP3 eZ eB eI)) measurings3), .sh (eI count4), .sh ((eP3 (eT eI) (eT (eP3 eZ eB eI)) eI) key5)]) rfl fun key5 h => ?_
  -- 129
  refine wb_joinG (β := (Bool × S_Settler)) (σT := (List ((List Int × List ((S × Bool × Int)) × Int) × Bool)) × Rak) (fun s6 => [.sh (.adr o), .sh ((eT eI) values2), .sh ((eT (eP3 eZ eB eI)) measurings3), .sh (eI count4), .sh ((eP3 (eT eI) (eT (eP3 eZ eB eI)) eI) key5)]) (fun s6 G' => ∃ fp', obA C_Settler o ["rack_used", "known"] [.sh ((eRak C_Rack C_Ruler) s6.2), .mo ((eKd w (eP3 (eT eI) (eT (eP3 eZ eB eI)) eI) eB) s6.1)] fp' G' ∧ Frm fpI GI fp' G') h (fun Q' h => ?_) (fun s6 G7 hg h => ?_)
  · skip
    refine ws_if ?_
    refine wt_cmp rfl ?_
    refine we_var 4 rfl (by walk_at "vis") rfl ?_
    refine we_fldD (ns := ns_Settler) (fs := fl_Settler w C_Ruler C_Rack self1) cl_Settler.cls cl_Settler.n_known rfl ?_
    refine we_var 0 rfl (by walk_at "vis") rfl ?_
    refine ⟨_, _, rfl, hP, fun a8 ha8 hua8 => ?_⟩
    refine ⟨_, _, .inl rfl, .inr ⟨a8, rfl, ha8⟩, ?_⟩
    refine opw_kdnin (ek := (eP3 (eT eI) (eT (eP3 eZ eB eI)) eI)) (f := eB) (kvs := self1.known) (x := key5) (kyc_of (kye_trip (KyE.up (kye_tup kye_int) (by decide : 1 ≤ 2)) (kye_tup (kye_trip kye_str kye_bool kye_int)) (KyE.up kye_int (by decide : 0 ≤ 2))) (fun _ => ⟨_, rfl⟩)) hr.units ?_
    refine ⟨_, rfl, ?_⟩
    refine ⟨fun hc => ?_, fun hc => ?_⟩
    · skip
      have h := (Out.iteb h).1 hc
      -- 130
      refine wb_cons (ws_kdputG (ek := (eP3 (eT eI) (eT (eP3 eZ eB eI)) eI)) (f := eB) (kyc_of (kye_trip (KyE.up (kye_tup kye_int) (by decide : 1 ≤ 2)) (kye_tup (kye_trip kye_str kye_bool kye_int)) (KyE.up kye_int (by decide : 0 ≤ 2))) (fun _ => ⟨_, rfl⟩)) hr.units ?_)
      refine we_methM tk cl_Settler.cls d_Settler_has_good hr rfl ?_
      refine we_var 0 rfl (by walk_at "vis") rfl ?_
      refine ⟨self1, _, _, rfl, hP, ?_⟩
      refine wa_cons ?_
      refine we_var 1 rfl (by walk_at "vis") rfl ?_
      refine ⟨_, _, rfl, ?_⟩
      refine wa_cons ?_
      refine we_var 2 rfl (by walk_at "vis") rfl ?_
      refine ⟨_, _, rfl, ?_⟩
      refine wa_cons ?_
      refine we_var 3 rfl (by walk_at "vis") rfl ?_
      refine ⟨_, _, rfl, ?_⟩
      refine wa_nil ?_
      refine ⟨(values2, measurings3, count4), _, rfl, hP, (Out.sb h).imp (fun r10 h fp1 G11 hP1 hF1 => ?_) (fun _ he fp' G' hP2 hF2 => he _ _ hP2 (hF.trans hF2))⟩
      have hP : obA C_Settler o ns_Settler (fl_Settler w C_Ruler C_Rack r10.2) _ G11 := hP1
      have hF := hF.trans hF1
      refine ⟨r10.1, _, rfl, ?_⟩
      refine we_fldD (ns := ns_Settler) (fs := fl_Settler w C_Ruler C_Rack r10.2) cl_Settler.cls cl_Settler.n_known rfl ?_
      refine we_var 0 rfl (by walk_at "vis") rfl ?_
      refine ⟨_, _, rfl, hP, fun a12 ha12 hua12 => ?_⟩
      refine ⟨_, rfl, ?_⟩
      refine we_var 4 rfl (by walk_at "vis") rfl ?_
      obtain ⟨g13, h⟩ := Out.gd h
      refine ⟨r10.2.known, key5, rfl, ha12, g13, ?_⟩
      obtain ⟨hP1, hF1⟩ := hua12 ((eKd w (eP3 (eT eI) (eT (eP3 eZ eB eI)) eI) eB) (dput r10.2.known key5 r10.1))
      have hP : obA C_Settler o ["rack_used", "known"] [.sh ((eRak C_Rack C_Ruler) r10.2.rack_used), .mo ((eKd w (eP3 (eT eI) (eT (eP3 eZ eB eI)) eI) eB) (dput r10.2.known key5 r10.1))] _ (updG _ a12 _) := hP1
      have hF := hF.trans hF1
      refine wb_env [.sh (.adr o), .sh ((eT eI) values2), .sh ((eT (eP3 eZ eB eI)) measurings3), .sh (eI count4), .sh ((eP3 (eT eI) (eT (eP3 eZ eB eI)) eI) key5)] rfl ?_
      exact wb_nil ⟨(dput r10.2.known key5 r10.1, r10.2.rack_used), (.eq (.eq (.eq (.eq (.eq .nil))))), ⟨_, hP, hF⟩, h⟩
    have h := (Out.iteb h).2 hc
    exact wb_nil ⟨(self1.known, self1.rack_used), (.eq (.eq (.eq (.eq (.eq .nil))))), ⟨_, hP, hF⟩, h⟩
  obtain ⟨fp, hP, hF⟩ := hg
  -- 131
  refine wb_cons (ws_ret ?_)
  refine we_kdget (ek := (eP3 (eT eI) (eT (eP3 eZ eB eI)) eI)) (f := eB) (kyc_of (kye_trip (KyE.up (kye_tup kye_int) (by decide : 1 ≤ 2)) (kye_tup (kye_trip kye_str kye_bool kye_int)) (KyE.up kye_int (by decide : 0 ≤ 2))) (fun _ => ⟨_, rfl⟩)) hr.units (fun _ _ => rfl) ?_
  refine we_fldD (ns := ["rack_used", "known"]) (fs := [.sh ((eRak C_Rack C_Ruler) s6.2), .mo ((eKd w (eP3 (eT eI) (eT (eP3 eZ eB eI)) eI) eB) s6.1)]) cl_Settler.cls cl_Settler.n_known rfl ?_
  refine we_var 0 rfl (by walk_at "vis") rfl ?_
  refine ⟨_, _, rfl, hP, fun a14 ha14 hua14 => ?_⟩
  refine we_var 4 rfl (by walk_at "vis") rfl ?_
  obtain ⟨x15, hx15, h⟩ := Out.gt h
  refine ⟨s6.1, key5, _, .inr ⟨a14, rfl, ha14⟩, .inl rfl, hx15, ?_⟩
  refine ⟨_, rfl, ?_⟩
  exact h _ _ hP hF
theorem cal_Settler_is_settled (n : Nat) {f f2 : Addr} {fd fd2 : FuncData} (F : Fun K "is_settled" "Settler.is_settled" s_Settler_is_settled f fd) (F2 : Fun K "has_good" "Settler.has_good" s_Settler_has_good f2 fd2) (B : Bn mg) (c_parted : Cal P w K mg base "parted" 8 ["rack", "values", "measuring"] (FM cx (A := Rak × (List Int) × ((S × Bool × Int))) (R := List ((Int × Bool) × List Int)) (fun a => [(eRak C_Rack C_Ruler) a.1, (eT eI) a.2.1, (eP3 eZ eB eI) a.2.2]) (fun v => .fr ((eKd w (eP eI eB) (eT eI)) v)) (fun a => m_parted a.1 a.2.1 a.2.2))) (cl_Settler : Clo_Settler K C_Settler) (a1 : L2.Meth K C_Settler "is_settled" f) (b1 : L2.Binds K fd ["self", "values", "measurings", "count"] []) (a2 : L2.Meth K C_Settler "has_good" f2) (b2 : L2.Binds K fd2 ["self", "values", "measurings", "count"] []) : MethD P w K mg base C_Settler "is_settled" (10 + 4 * n) ["self", "values", "measurings", "count"] (FMO cx C_Settler ns_Settler (σT := S_Settler) (A := (List Int) × (List ((S × Bool × Int))) × Int) (R := Bool) (fl_Settler w C_Ruler C_Rack) (fun a => [(eT eI) a.1, (eT (eP3 eZ eB eI)) a.2.1, eI a.2.2]) (fun v => .sh (eB v)) (fun s a => m_Settler_is_settled n s a.1 a.2.1 a.2.2)) := by
  induction n with
  | zero => exact ⟨f, fd, a1, ok_Settler_is_settled_zero F B, b1⟩
  | succ n d_Settler_is_settled => exact ⟨f, fd, a1, ok_Settler_is_settled F B cl_Settler ⟨f2, fd2, a2, ok_Settler_has_good (lr := 10) F2 B c_parted cl_Settler d_Settler_is_settled (by omega), b2⟩, b1⟩
theorem ok_fewest_measurings {f : Addr} {fd : FuncData} (F : Fun K "fewest_measurings" "fewest_measurings" s_fewest_measurings f fd) (B : Bn mg) (c_validate_lengths_of_things_t : Cal P w K mg base "validate_lengths_of_things" 5 ["values"] (FM cx (A := List Int) (R := Unit) (fun a => [(eT eI) a]) (fun v => .sh (eU v)) (fun a => m_validate_lengths_of_things_t a))) (c_validate_measurings : Cal P w K mg base "validate_measurings" 6 ["rack", "measurings"] (FM cx (A := Rak × (List ((S × Bool × Int)))) (R := Unit) (fun a => [(eRak C_Rack C_Ruler) a.1, (eL (eP3 eZ eB eI)) a.2]) (fun v => .sh (eU v)) (fun a => m_validate_measurings a.1 a.2))) {t_MAX_MEASURINGS : Tok} (m_MAX_MEASURINGS : mg "MAX_MEASURINGS" = some (.int 5 t_MAX_MEASURINGS)) {t_MAX_THINGS : Tok} (m_MAX_THINGS : mg "MAX_THINGS" = some (.int 60 t_MAX_THINGS)) (cl_Settler : Clo_Settler K C_Settler) (d_Settler_is_settled : MethD P w K mg base C_Settler "is_settled" 34 ["self", "values", "measurings", "count"] (FMO cx C_Settler ns_Settler (σT := S_Settler) (A := (List Int) × (List ((S × Bool × Int))) × Int) (R := Bool) (fl_Settler w C_Ruler C_Rack) (fun a => [(eT eI) a.1, (eT (eP3 eZ eB eI)) a.2.1, eI a.2.2]) (fun v => .sh (eB v)) (fun s a => m_Settler_is_settled 6 s a.1 a.2.1 a.2.2))) (k_Settler : MakeO P w K mg base "Settler" C_Settler 3 ["self", "rack"] (FIO cx C_Settler ns_Settler (σT := S_Settler) (A := Rak) (fl_Settler w C_Ruler C_Rack) (fun a => [(eRak C_Rack C_Ruler) a]) (fun a => mk_Settler a))) : FnOk P w K mg base (L2.CX P w) 36 f fd ["rack", "lengths", "measurings"] (spD K (FM cx (A := Rak × (List Int) × (List ((S × Bool × Int)))) (R := Option (Int)) (fun a => [(eRak C_Rack C_Ruler) a.1, (eT eI) a.2.1, (eL (eP3 eZ eB eI)) a.2.2]) (fun v => .sh ((eO eI) v)) (fun a => m_fewest_measurings a.1 a.2.1 a.2.2))) := by
  refine def_ok F sc_fewest_measurings (fun ds G post px h => ?_) (fun cdv A outer s H E F0 T hr ds G post px h tk hp => ?_)
  · obtain ⟨_, rfl, _⟩ := h; rfl
  obtain ⟨⟨rack1, lengths2, measurings3⟩, rfl, h⟩ := h
  unfold m_fewest_measurings at h
  try dsimp only at h
  have nd := sc_fewest_measurings.nd
  refine wb_env [.sh ((eRak C_Rack C_Ruler) rack1), .sh ((eT eI) lengths2), .sh ((eL (eP3 eZ eB eI)) measurings3), .no, .no] rfl ?_
  -- 141
  refine wb_cons (ws_expr ?_)
  refine we_cal tk c_validate_measurings hr rfl ?_
  refine wa_cons ?_
  refine we_var 0 rfl (by walk_at "vis") rfl ?_
  refine ⟨_, _, rfl, ?_⟩
  refine wa_cons ?_
  refine we_var 2 rfl (by walk_at "vis") rfl ?_
  refine ⟨_, _, rfl, ?_⟩
  refine wa_nil ?_
  refine ⟨(rack1, measurings3), rfl, (Out.sb h).imp (fun r4 h => ?_) (fun _ he => he)⟩
  -- 142
  refine wb_cons (ws_expr ?_)
  refine we_cal tk c_validate_lengths_of_things_t hr rfl ?_
  refine wa_cons ?_
  refine we_var 1 rfl (by walk_at "vis") rfl ?_
  refine ⟨_, _, rfl, ?_⟩
  refine wa_nil ?_
  refine ⟨lengths2, rfl, (Out.sb h).imp (fun r5 h => ?_) (fun _ he => he)⟩
  -- 143
  refine wb_cons (ws_if ?_)
  refine wt_w ?_
  refine ww_orB ?_
  refine wt_cmp (nomark _) ?_
  refine we_b1 (x := "len") (id := "len") rfl B.len bt_len ?_
  refine we_var 2 rfl (by walk_at "vis") rfl ?_
  refine ⟨_, .inl rfl, ?_⟩
  refine t_len (f := (eP3 eZ eB eI)) measurings3 ?_
  refine we_globI rfl m_MAX_MEASURINGS ?_
  refine ⟨_, _, .inl rfl, .inl rfl, ?_⟩
  refine opw_gt ?_
  refine ⟨_, rfl, ?_⟩
  refine ⟨(decide ((60 : Int) < ((lengths2).length : Int))), fun _ => ?_, ?_⟩
  · skip
    refine ww_or1 ?_
    refine wt_cmp (nomark _) ?_
    refine we_b1 (x := "len") (id := "len") rfl B.len bt_len ?_
    refine we_var 1 rfl (by walk_at "vis") rfl ?_
    refine ⟨_, .inl rfl, ?_⟩
    refine t_lenT (f := eI) lengths2 ?_
    refine we_globI rfl m_MAX_THINGS ?_
    refine ⟨_, _, .inl rfl, .inl rfl, ?_⟩
    refine opw_gt ?_
    refine ⟨_, rfl, ?_⟩
    exact ⟨rfl, rfl, rfl⟩
  refine ⟨fun hc => ?_, fun hc => ?_⟩
  · skip
    have h := (Out.iteb h).1 hc
    -- 144
    exact h.elim
  have h := (Out.iteb h).2 hc
  refine wb_nil ?_
  -- 145
  refine wb_cons (ws_set 3 nd rfl (by walk_at "vis") ?_)
  refine we_makeC tk k_Settler hr rfl ?_
  refine wa_cons ?_
  refine we_var 0 rfl (by walk_at "vis") rfl ?_
  refine ⟨_, _, rfl, ?_⟩
  refine wa_nil ?_
  refine ⟨rack1, rfl, (Out.nx (Out.sb h)).imp (fun r6 h o7 fp1 G8 hP hF => ?_) (fun _ (he : False) => he.elim)⟩
  refine ⟨lt_ rfl, _, rfl, ?_⟩
  refine wb_env [.sh ((eRak C_Rack C_Ruler) rack1), .sh ((eT eI) lengths2), .sh ((eL (eP3 eZ eB eI)) measurings3), .sh (.adr o7), .no] rfl ?_
  -- 146
  refine wb_dropR G ?_
  refine wb_forRG (β := Option (Int)) [4] (σT := S_Settler) (ρ := Option (Int)) (fun s9 => [.sh ((eRak C_Rack C_Ruler) rack1), .sh ((eT eI) lengths2), .sh ((eL (eP3 eZ eB eI)) measurings3), .sh (.adr o7), .no]) (fun s9 G' => ∃ fp', obA C_Settler o7 ns_Settler (fl_Settler w C_Ruler C_Rack s9) fp' G' ∧ Frm [] G fp' G') eI ((fun v => .sh ((eO eI) v))) (fun _ G' => ∀ a d, G a = some d → G' a = some d) hp rfl ?_
  refine wi_rng1 rfl B.range ?_
  refine we_bin ?_
  refine we_b1 (x := "len") (id := "len") rfl B.len bt_len ?_
  refine we_var 2 rfl (by walk_at "vis") rfl ?_
  refine ⟨_, .inl rfl, ?_⟩
  refine t_len (f := (eP3 eZ eB eI)) measurings3 ?_
  refine we_int ?_
  refine ⟨_, _, .inl rfl, .inl rfl, ?_⟩
  refine opw_add ?_
  obtain ⟨g12, h⟩ := Out.gd h
  refine ⟨(((measurings3).length : Int) + (1 : Int)), rfl, g12, ?_⟩
  refine ⟨(rgI 0 (((measurings3).length : Int) + (1 : Int))), r6, _, _, _, _, rfl, (.eq (.eq (.eq (.eq (.no .nil))))), ⟨_, hP, hF⟩, h, fun s9 G13 x11 Q' hg h => ?_, (fun v G' hg h => ⟨hg, h⟩), fun s10 G14 hg h => ?_⟩
  · skip
    obtain ⟨fp, hP, hF⟩ := hg
    refine wg_name 4 nd rfl (by walk_at "vis") (by decide) (lt_ rfl) ?_
    refine wb_env [.sh ((eRak C_Rack C_Ruler) rack1), .sh ((eT eI) lengths2), .sh ((eL (eP3 eZ eB eI)) measurings3), .sh (.adr o7), .sh (eI x11)] rfl ?_
    -- 147
    refine wb_cons (ws_if ?_)
    refine wt_val (fun _ => rfl) ?_
    refine we_methM tk cl_Settler.cls d_Settler_is_settled hr rfl ?_
    refine we_var 3 rfl (by walk_at "vis") rfl ?_
    refine ⟨s9, _, _, rfl, hP, ?_⟩
    refine wa_cons ?_
    refine we_t1 (x := "tuple") (id := "tuple") rfl B.tuple bt_tuple ?_
    refine we_var 1 rfl (by walk_at "vis") rfl ?_
    refine ⟨_, .inl rfl, ?_⟩
    refine c_tupleT ?_
    refine ⟨_, _, rfl, ?_⟩
    refine wa_cons ?_
    refine we_t1 (x := "tuple") (id := "tuple") rfl B.tuple bt_tuple ?_
    refine we_var 2 rfl (by walk_at "vis") rfl ?_
    refine ⟨_, .inl rfl, ?_⟩
    refine c_tuple ?_
    refine ⟨_, _, rfl, ?_⟩
    refine wa_cons ?_
    refine we_var 4 rfl (by walk_at "vis") rfl ?_
    refine ⟨_, _, rfl, ?_⟩
    refine wa_nil ?_
    refine ⟨(lengths2, measurings3, x11), _, rfl, hP, (Out.nx (Out.sb h)).imp (fun r16 h fp1 G17 hP1 hF1 => ?_) (fun _ (he : False) => he.elim)⟩
    have hP : obA C_Settler o7 ns_Settler (fl_Settler w C_Ruler C_Rack r16.2) _ G17 := hP1
    have hF := hF.trans hF1
    refine ⟨_, rfl, ?_⟩
    refine ⟨fun hc => ?_, fun hc => ?_⟩
    · skip
      have h := (Out.iteb h).1 hc
      -- 148
      refine wb_cons (ws_ret ?_)
      refine we_var 4 rfl (by walk_at "vis") rfl ?_
      refine ⟨_, rfl, ?_⟩
      exact ⟨some x11, rfl, hF.sub, h⟩
    have h := (Out.iteb h).2 hc
    refine wb_nil ?_
    exact wb_nil ⟨r16.2, (.eq (.eq (.eq (.eq (.no .nil))))), ⟨_, hP, hF⟩, h⟩
  obtain ⟨fp, hP, hF⟩ := hg
  -- 149
  refine wb_cons (ws_ret ?_)
  refine we_non ?_
  refine ⟨_, rfl, ?_⟩
  exact ⟨hF.sub, h⟩
theorem ok_law_marks {f : Addr} {fd : FuncData} (F : Fun K "_law_marks" "_law_marks" s_law_marks f fd) (B : Bn mg) (c_law_next : Cal P w K mg base "_law_next" 3 ["_law_h", "_law_limit"] (FBh (A := Int) (R := Int) (fun a => [eI a]) (fun v => .sh (eI v)) (fun a => m_law_next a))) : FnOk P w K mg base (L2.CX P w) 5 f fd ["_law_h", "_law_most", "_law_wide"] (spD K (FBh (A := Int × Int) (R := List Int) (fun a => [eI a.1, eI a.2]) (fun v => .sh ((eT eI) v)) (fun a => m_law_marks a.1 a.2))) := by
  refine def_ok F sc_law_marks (fun ds G post px h => ?_) (fun cdv A outer s H E F0 T hr ds G post px h tk hp => ?_)
  · obtain ⟨_, _, _, _, _, _, rfl, _⟩ := h; rfl
  obtain ⟨⟨most1, wide2⟩, G0, b, g, bx, hne, rfl, rfl, h⟩ := h
  unfold m_law_marks at h
  try dsimp only at h
  have nd := sc_law_marks.nd
  refine wb_env [.sh (.adr b), .sh (eI most1), .sh (eI wide2), .no, .no] rfl ?_
  -- 231
  refine wb_cons (ws_set 3 nd rfl (by walk_at "vis") ?_)
  refine we_lst ?_
  refine wa_cons ?_
  refine we_int ?_
  refine ⟨_, _, rfl, ?_⟩
  refine wa_nil ?_
  refine ⟨lt_ rfl, ?_⟩
  refine ⟨lt_ rfl, _, rfl, ?_⟩
  refine wb_let h (fun found3 => [.sh (.adr b), .sh (eI most1), .sh (eI wide2), .own ((eL eI) found3), .no]) rfl fun found3 h => ?_
  -- 232
  refine wb_forO (β := (List Int × Bh)) [4] (σT := (List Int) × Bh) (fun s4 => [.sh (.adr b), .sh (eI most1), .sh (eI wide2), .own ((eL eI) s4.1), .no]) (fun s4 => bxH G0 b g s4.2) eI hp rfl ?_
  refine wi_rng1 rfl B.range ?_
  refine we_bin ?_
  refine we_int ?_
  refine we_cal tk c_law_next hr rfl ?_
  refine wa_cons ?_
  refine we_var 0 rfl (by walk_at "vis") rfl ?_
  refine ⟨_, _, rfl, ?_⟩
  refine wa_cons ?_
  refine we_bin ?_
  refine we_var 1 rfl (by walk_at "vis") rfl ?_
  refine we_int ?_
  refine ⟨_, _, .inl rfl, .inl rfl, ?_⟩
  refine opw_sub ?_
  refine ⟨_, _, rfl, ?_⟩
  refine wa_nil ?_
  refine ⟨most1 - (1 : Int), G0, b, g, bx, hne, rfl, rfl, (Out.sb h).imp (fun r7 h => ?_) (fun _ he => he.elim)⟩
  refine ⟨_, _, .inl rfl, .inl rfl, ?_⟩
  refine opw_add ?_
  obtain ⟨g8, h⟩ := Out.gd h
  refine ⟨((1 : Int) + r7.1), rfl, g8, ?_⟩
  refine ⟨(rgI 0 ((1 : Int) + r7.1)), (found3, r7.2), _, _, _, _, rfl, (.eq (.eq (.eq (.eq (.no .nil))))), rfl, h, fun s4 x6 Q' h => ?_, fun s5 h => ?_⟩
  · skip
    refine wg_name 4 nd rfl (by walk_at "vis") (by decide) (lt_ rfl) ?_
    refine wb_env [.sh (.adr b), .sh (eI most1), .sh (eI wide2), .own ((eL eI) s4.1), .sh (eI x6)] rfl ?_
    -- 233
    refine wb_cons (ws_expr ?_)
    refine we_appendT (f := eI) ?_
    refine we_var 3 rfl (by walk_at "vis") rfl ?_
    refine ⟨_, s4.1, rfl, rfl, ?_⟩
    refine we_bin ?_
    refine we_bin ?_
    refine we_ix (fun _ _ => rfl) ?_
    refine we_var 3 rfl (by walk_at "vis") rfl ?_
    refine we_un rfl ?_
    refine we_int ?_
    refine ⟨_, rfl, ?_⟩
    obtain ⟨x10, hx10, h⟩ := Out.gt h
    refine ⟨_, _, .inl rfl, .inl rfl, ?_⟩
    refine t_ix (f := eI) hx10 ?_
    refine we_int ?_
    refine ⟨_, _, .inl rfl, .inl rfl, ?_⟩
    refine opw_add ?_
    refine we_cal tk c_law_next hr rfl ?_
    refine wa_cons ?_
    refine we_var 0 rfl (by walk_at "vis") rfl ?_
    refine ⟨_, _, rfl, ?_⟩
    refine wa_cons ?_
    refine we_var 2 rfl (by walk_at "vis") rfl ?_
    refine ⟨_, _, rfl, ?_⟩
    refine wa_nil ?_
    refine ⟨wide2, G0, b, g, s4.2, hne, rfl, rfl, (Out.sb h).imp (fun r11 h => ?_) (fun _ he => he.elim)⟩
    refine ⟨_, _, .inl rfl, .inl rfl, ?_⟩
    refine opw_add ?_
    obtain ⟨g12, h⟩ := Out.gd h
    refine ⟨((x10 + (1 : Int)) + r11.1), _, s4.1, rfl, rfl, g12, ?_⟩
    refine wb_let h (fun found13 => [.sh (.adr b), .sh (eI most1), .sh (eI wide2), .own ((eL eI) found13), .sh (eI x6)]) rfl fun found13 h => ?_
    exact wb_nil ⟨(found13, r11.2), (.eq (.eq (.eq (.eq (.no .nil))))), rfl, h⟩
  -- 234
  refine wb_cons (ws_ret ?_)
  refine we_t1 (x := "tuple") (id := "tuple") rfl B.tuple bt_tuple ?_
  refine we_var 3 rfl (by walk_at "vis") rfl ?_
  refine ⟨_, .inl rfl, ?_⟩
  refine c_tuple ?_
  refine ⟨_, rfl, ?_⟩
  exact h
theorem ok_law_drawn {f : Addr} {fd : FuncData} (F : Fun K "_law_drawn" "_law_drawn" s_law_drawn f fd) (B : Bn mg) (c_law_marks : Cal P w K mg base "_law_marks" 5 ["_law_h", "_law_most", "_law_wide"] (FBh (A := Int × Int) (R := List Int) (fun a => [eI a.1, eI a.2]) (fun v => .sh ((eT eI) v)) (fun a => m_law_marks a.1 a.2))) (c_law_next : Cal P w K mg base "_law_next" 3 ["_law_h", "_law_limit"] (FBh (A := Int) (R := Int) (fun a => [eI a]) (fun v => .sh (eI v)) (fun a => m_law_next a))) : FnOk P w K mg base (L2.CX P w) 7 f fd ["_law_h", "_law_most", "_law_wide"] (spD K (FBh (A := Int × Int) (R := List (S × (List Int × Int))) (fun a => [eI a.1, eI a.2]) (fun v => .fr ((eD kZ (eP (eT eI) eI)) v)) (fun a => m_law_drawn a.1 a.2))) := by
  refine def_ok F sc_law_drawn (fun ds G post px h => ?_) (fun cdv A outer s H E F0 T hr ds G post px h tk hp => ?_)
  · obtain ⟨_, _, _, _, _, _, rfl, _⟩ := h; rfl
  obtain ⟨⟨most1, wide2⟩, G0, b, g, bx, hne, rfl, rfl, h⟩ := h
  unfold m_law_drawn at h
  try dsimp only at h
  have nd := sc_law_drawn.nd
  refine wb_env [.sh (.adr b), .sh (eI most1), .sh (eI wide2), .no, .no] rfl ?_
  -- 236
  refine wb_cons (ws_set 3 nd rfl (by walk_at "vis") ?_)
  refine we_dnew ?_
  refine ⟨lt_ rfl, _, rfl, ?_⟩
  refine wb_let h (fun found3 => [.sh (.adr b), .sh (eI most1), .sh (eI wide2), .own ((eD kZ (eP (eT eI) eI)) found3), .no]) rfl fun found3 h => ?_
  -- 237
  refine wb_forO (β := (List (S × (List Int × Int)) × Bh)) [4] (σT := (List (S × (List Int × Int))) × Bh) (fun s4 => [.sh (.adr b), .sh (eI most1), .sh (eI wide2), .own ((eD kZ (eP (eT eI) eI)) s4.1), .no]) (fun s4 => bxH G0 b g s4.2) eZ hp rfl ?_
  refine ti_lst (f := eZ) ?_
  refine we_slice ?_
  refine we_lst ?_
  refine wa_cons ?_
  refine we_str ?_
  refine ⟨_, _, rfl, ?_⟩
  refine wa_cons ?_
  refine we_str ?_
  refine ⟨_, _, rfl, ?_⟩
  refine wa_cons ?_
  refine we_str ?_
  refine ⟨_, _, rfl, ?_⟩
  refine wa_cons ?_
  refine we_str ?_
  refine ⟨_, _, rfl, ?_⟩
  refine wa_cons ?_
  refine we_str ?_
  refine ⟨_, _, rfl, ?_⟩
  refine wa_cons ?_
  refine we_str ?_
  refine ⟨_, _, rfl, ?_⟩
  refine wa_nil ?_
  refine ⟨lt_ rfl, ?_⟩
  refine wo_none ?_
  refine wo_some ?_
  refine we_bin ?_
  refine we_int ?_
  refine we_cal tk c_law_next hr rfl ?_
  refine wa_cons ?_
  refine we_var 0 rfl (by walk_at "vis") rfl ?_
  refine ⟨_, _, rfl, ?_⟩
  refine wa_cons ?_
  refine we_var 1 rfl (by walk_at "vis") rfl ?_
  refine ⟨_, _, rfl, ?_⟩
  refine wa_nil ?_
  refine ⟨most1, G0, b, g, bx, hne, rfl, rfl, (Out.sb h).imp (fun r7 h => ?_) (fun _ he => he.elim)⟩
  refine ⟨_, _, .inl rfl, .inl rfl, ?_⟩
  refine opw_add ?_
  refine ⟨_, rfl, ?_⟩
  refine ⟨_, .inl rfl, ?_⟩
  refine t_sl (f := eZ) (xs := [z_ash, z_bay, z_elm, z_fir, z_oak, z_yew]) ?_
  refine ⟨(pcut [z_ash, z_bay, z_elm, z_fir, z_oak, z_yew] none (some ((1 : Int) + r7.1))), _, rfl, fun hl8 => ?_⟩
  refine ⟨(pcut [z_ash, z_bay, z_elm, z_fir, z_oak, z_yew] none (some ((1 : Int) + r7.1))), (found3, r7.2), _, _, _, _, rfl, (.eq (.eq (.eq (.eq (.no .nil))))), rfl, h, fun s4 x6 Q' h => ?_, fun s5 h => ?_⟩
  · skip
    refine wg_name 4 nd rfl (by walk_at "vis") (by decide) (lt_ rfl) ?_
    refine wb_env [.sh (.adr b), .sh (eI most1), .sh (eI wide2), .own ((eD kZ (eP (eT eI) eI)) s4.1), .sh (eZ x6)] rfl ?_
    -- 238
    refine wb_cons (ws_dput (k := kZ) (f := (eP (eT eI) eI)) kZ_inj hr.units ?_)
    refine we_tup ?_
    refine wa_cons ?_
    refine we_cal tk c_law_marks hr rfl ?_
    refine wa_cons ?_
    refine we_var 0 rfl (by walk_at "vis") rfl ?_
    refine ⟨_, _, rfl, ?_⟩
    refine wa_cons ?_
    refine we_int ?_
    refine ⟨_, _, rfl, ?_⟩
    refine wa_cons ?_
    refine we_var 2 rfl (by walk_at "vis") rfl ?_
    refine ⟨_, _, rfl, ?_⟩
    refine wa_nil ?_
    refine ⟨((4 : Int), wide2), G0, b, g, s4.2, hne, rfl, rfl, (Out.sb h).imp (fun r9 h => ?_) (fun _ he => he.elim)⟩
    refine ⟨_, _, rfl, ?_⟩
    refine wa_cons ?_
    refine we_ix (fun _ _ => rfl) ?_
    refine we_lst ?_
    refine wa_cons ?_
    refine we_int ?_
    refine ⟨_, _, rfl, ?_⟩
    refine wa_cons ?_
    refine we_int ?_
    refine ⟨_, _, rfl, ?_⟩
    refine wa_cons ?_
    refine we_int ?_
    refine ⟨_, _, rfl, ?_⟩
    refine wa_cons ?_
    refine we_int ?_
    refine ⟨_, _, rfl, ?_⟩
    refine wa_nil ?_
    refine ⟨lt_ rfl, ?_⟩
    refine we_cal tk c_law_next hr rfl ?_
    refine wa_cons ?_
    refine we_var 0 rfl (by walk_at "vis") rfl ?_
    refine ⟨_, _, rfl, ?_⟩
    refine wa_cons ?_
    refine we_int ?_
    refine ⟨_, _, rfl, ?_⟩
    refine wa_nil ?_
    refine ⟨(4 : Int), G0, b, g, r9.2, hne, rfl, rfl, (Out.sb h).imp (fun r10 h => ?_) (fun _ he => he.elim)⟩
    obtain ⟨x11, hx11, h⟩ := Out.gt h
    refine ⟨_, _, .inl rfl, .inl rfl, ?_⟩
    refine t_ix (f := eI) hx11 ?_
    refine ⟨_, _, rfl, ?_⟩
    refine wa_nil ?_
    refine ⟨lt_ rfl, ?_⟩
    refine ⟨(r9.1, x11), _, rfl, ?_⟩
    refine we_var 3 rfl (by walk_at "vis") rfl ?_
    refine ⟨_, rfl, ?_⟩
    refine we_var 4 rfl (by walk_at "vis") rfl ?_
    obtain ⟨g12, h⟩ := Out.gd h
    refine ⟨s4.1, x6, rfl, rfl, g12, ?_⟩
    refine wb_let h (fun found13 => [.sh (.adr b), .sh (eI most1), .sh (eI wide2), .own ((eD kZ (eP (eT eI) eI)) found13), .sh (eZ x6)]) rfl fun found13 h => ?_
    exact wb_nil ⟨(found13, r10.2), (.eq (.eq (.eq (.eq (.no .nil))))), rfl, h⟩
  -- 239
  refine wb_cons (ws_ret ?_)
  refine we_var 3 rfl (by walk_at "vis") rfl ?_
  refine ⟨_, rfl, ?_⟩
  exact h
theorem ok_law_rack {f : Addr} {fd : FuncData} (F : Fun K "_law_rack" "_law_rack" s_law_rack f fd) (B : Bn mg) (k_Rack : MakeD P w K mg base "Rack" C_Rack 5 ["self", "rulers"] (FMI cx (A := List (S × Rul)) (R := Rak) (fun a => [(eD kZ (eRul C_Ruler)) a]) (fun r => [eD kZ (eRul C_Ruler) r.held]) (fun a => mk_Rack a))) (k_Ruler : MakeD P w K mg base "Ruler" C_Ruler 5 ["self", "marks", "error"] (FMI cx (A := (List Int) × Int) (R := Rul) (fun a => [(eT eI) a.1, eI a.2]) (fun r => [.int r.error, .tup (r.marks.map D.int)]) (fun a => mk_Ruler a.1 a.2))) : FnOk P w K mg base (L2.CX P w) 8 f fd ["_law_drawn_here"] (spD K (FM cx (A := List (S × (List Int × Int))) (R := Rak) (fun a => [(eD kZ (eP (eT eI) eI)) a]) (fun v => .sh ((eRak C_Rack C_Ruler) v)) (fun a => m_law_rack a))) := by
  refine def_ok F sc_law_rack (fun ds G post px h => ?_) (fun cdv A outer s H E F0 T hr ds G post px h tk hp => ?_)
  · obtain ⟨_, rfl, _⟩ := h; rfl
  obtain ⟨drawn_here1, rfl, h⟩ := h
  unfold m_law_rack at h
  try dsimp only at h
  have nd := sc_law_rack.nd
  refine wb_env [.sh ((eD kZ (eP (eT eI) eI)) drawn_here1), .no] rfl ?_
  -- 241
  refine wb_cons (ws_ret ?_)
  refine we_make tk k_Rack hr rfl ?_
  refine wa_cons ?_
  refine we_lock ?_
  refine we_t1 (x := "dict") (id := "dict") rfl B.dict bt_dict ?_
  refine we_lcQ [("_law_name", 1)] rfl nd (blkOk_by (by rfl)) (lcS_preP (γ := Rak) [("_law_name", 1)] [.sh ((eD kZ (eP (eT eI) eI)) drawn_here1), .no] (fun _ : Unit => G) (en := eZ) (eP eZ (eRul C_Ruler)) ?_)
  refine ti_keys (k := kZ) (f := (eP (eT eI) eI)) ?_
  refine we_var 0 rfl (by walk_at "vis") rfl ?_
  refine ⟨drawn_here1, _, rfl, fun hl3 => ?_⟩
  refine ⟨(drawn_here1.map (·.1)), (), _, _, _, _, rfl, hl3, Wk.refl _, rfl, h, fun s4 x2 Q' h => ?_, fun l5 h => ?_⟩
  · skip
    rintro Y ⟨s1, H1, C1, cl, fp, rfl⟩
    refine wg_name 1 nd rfl (by walk_at "vis") (by decide) (lt_ rfl) ?_
    rintro Y ⟨s1, H1, C1, cl, fp, rfl⟩
    refine we_tup ?_
    refine wa_cons ?_
    refine we_var 1 rfl (by walk_at "vis") rfl ?_
    refine ⟨_, _, rfl, ?_⟩
    refine wa_cons ?_
    refine we_make (BlkX.tk ⟨_, _, _, _, _, rfl⟩) k_Ruler hr rfl ?_
    refine wa_cons ?_
    refine we_ix (fun _ _ => rfl) ?_
    refine we_dget (k := kZ) (f := (eP (eT eI) eI)) kZ_inj hr.units (fun _ _ => rfl) ?_
    refine we_var 0 rfl (by walk_at "vis") rfl ?_
    refine we_var 1 rfl (by walk_at "vis") rfl ?_
    obtain ⟨x6, hx6, h⟩ := Out.gt h
    refine ⟨drawn_here1, x2, _, .inl rfl, rfl, hx6, ?_⟩
    refine we_int ?_
    refine ⟨_, _, .inl rfl, .inl rfl, ?_⟩
    refine ixw_tup (xs := [(eT eI) x6.1, eI x6.2]) (i := (0 : Int)) rfl ?_
    refine ⟨_, _, rfl, ?_⟩
    refine wa_cons ?_
    refine we_ix (fun _ _ => rfl) ?_
    refine we_dget (k := kZ) (f := (eP (eT eI) eI)) kZ_inj hr.units (fun _ _ => rfl) ?_
    refine we_var 0 rfl (by walk_at "vis") rfl ?_
    refine we_var 1 rfl (by walk_at "vis") rfl ?_
    obtain ⟨x7, hx7, h⟩ := Out.gt h
    refine ⟨drawn_here1, x2, _, .inl rfl, rfl, hx7, ?_⟩
    refine we_int ?_
    refine ⟨_, _, .inl rfl, .inl rfl, ?_⟩
    refine ixw_tup (xs := [(eT eI) x7.1, eI x7.2]) (i := (1 : Int)) rfl ?_
    refine ⟨_, _, rfl, ?_⟩
    refine wa_nil ?_
    refine ⟨(x6.1, x7.2), rfl, (Out.nx (Out.sb h)).imp (fun r8 h => ?_) (fun _ he => he)⟩
    refine ⟨_, _, rfl, ?_⟩
    refine wa_nil ?_
    refine ⟨lt_ rfl, ?_⟩
    exact ⟨(x2, r8), (), _, rfl, Wk.refl _, rfl, h⟩
  refine ⟨_, .inl rfl, ?_⟩
  refine t_dictP (k := kZ) (f := (eRul C_Ruler)) kZ_inj rfl l5.1 ?_
  refine ⟨_, _, rfl, ?_⟩
  refine ⟨_, _, rfl, ?_⟩
  refine wa_nil ?_
  refine ⟨dmk l5.1, rfl, (Out.sb h).imp (fun r9 h => ?_) (fun _ he => he)⟩
  refine ⟨_, rfl, ?_⟩
  exact h
theorem ok_law_read {f : Addr} {fd : FuncData} (F : Fun K "_law_read" "_law_read" s_law_read f fd) (B : Bn mg) : FnOk P w K mg base (L2.CX P w) 3 f fd ["_law_marks_here", "_law_end"] (spD K (FM cx (A := (List Int) × Int) (R := (Int × Bool)) (fun a => [(eT eI) a.1, eI a.2]) (fun v => .sh ((eP eI eB) v)) (fun a => m_law_read a.1 a.2))) := by
  refine def_ok F sc_law_read (fun ds G post px h => ?_) (fun cdv A outer s H E F0 T hr ds G post px h tk hp => ?_)
  · obtain ⟨_, rfl, _⟩ := h; rfl
  obtain ⟨⟨marks_here1, end2⟩, rfl, h⟩ := h
  unfold m_law_read at h
  try dsimp only at h
  have nd := sc_law_read.nd
  refine wb_env [.sh ((eT eI) marks_here1), .sh (eI end2), .no, .no] rfl ?_
  -- 243
  refine wb_setLcQ [("_law_k", 3)] 2 rfl nd rfl rfl (by rfl) (blkOk_by (by rfl)) (lcS_preP (γ := (Int × Bool)) [("_law_k", 3)] [.sh ((eT eI) marks_here1), .sh (eI end2), .no, .no] (fun _ : Unit => G) (en := eI) eI ?_)
  refine wi_rng1 rfl B.range ?_
  refine we_b1 (x := "len") (id := "len") rfl B.len bt_len ?_
  refine we_var 0 rfl (by walk_at "vis") rfl ?_
  refine ⟨_, .inl rfl, ?_⟩
  refine t_lenT (f := eI) marks_here1 ?_
  obtain ⟨g4, h⟩ := Out.gd h
  refine ⟨((marks_here1).length : Int), rfl, g4, ?_⟩
  obtain ⟨g5, h⟩ := Out.gd h
  refine ⟨(rgI 0 ((marks_here1).length : Int)), (), _, _, _, _, rfl, g5, Wk.refl _, rfl, h, fun s6 x3 Q' h => ?_, fun l7 h => ?_⟩
  · skip
    rintro Y ⟨s1, H1, C1, cl, fp, rfl⟩
    refine wg_name 3 nd rfl (by walk_at "vis") (by decide) (lt_ rfl) ?_
    rintro Y ⟨s1, H1, C1, cl, fp, rfl⟩
    refine wt_cmp (nomark _) ?_
    refine we_ix (fun _ _ => rfl) ?_
    refine we_var 0 rfl (by walk_at "vis") rfl ?_
    refine we_var 3 rfl (by walk_at "vis") rfl ?_
    obtain ⟨x8, hx8, h⟩ := Out.gt h
    refine ⟨_, _, .inl rfl, .inl rfl, ?_⟩
    refine t_ixT (f := eI) hx8 ?_
    refine we_var 1 rfl (by walk_at "vis") rfl ?_
    refine ⟨_, _, .inl rfl, .inl rfl, ?_⟩
    refine opw_le ?_
    refine ⟨_, rfl, ?_⟩
    refine ⟨fun hc => ?_, fun hc => ?_⟩
    · skip
      have h := (Out.iteb h).1 hc
      rintro Y ⟨s1, H1, C1, cl, fp, rfl⟩
      refine we_var 3 rfl (by walk_at "vis") rfl ?_
      exact ⟨x3, (), _, rfl, Wk.refl _, rfl, h⟩
    have h := (Out.iteb h).2 hc
    exact ⟨(), Wk.refl _, rfl, h⟩
  refine ⟨lt_ rfl, _, rfl, ?_⟩
  refine wb_env [.sh ((eT eI) marks_here1), .sh (eI end2), .own ((eL eI) l7.1), .no] rfl ?_
  -- 244
  refine wb_cons (ws_ret ?_)
  refine we_ifN (eP eI eB) ?_
  refine wt_cmp (nomark _) ?_
  refine we_var 2 rfl (by walk_at "vis") rfl ?_
  refine we_lst ?_
  refine wa_nil ?_
  refine ⟨by decide, ?_⟩
  refine ⟨_, _, .inl rfl, .inl rfl, ?_⟩
  refine opw_neC (eqc_lst eqc_int) hr.units l7.1 ([] : List Int) ?_
  refine ⟨_, rfl, ?_⟩
  refine ⟨_, _, _, _, _, _, h, fun _ Q' h => ?_, fun _ Q' h => ?_, fun i9 h => ?_⟩
  · skip
    refine we_tup ?_
    refine wa_cons ?_
    refine we_ix (fun _ _ => rfl) ?_
    refine we_var 2 rfl (by walk_at "vis") rfl ?_
    refine we_un rfl ?_
    refine we_int ?_
    refine ⟨_, rfl, ?_⟩
    obtain ⟨x10, hx10, h⟩ := Out.gt h
    refine ⟨_, _, .inl rfl, .inl rfl, ?_⟩
    refine t_ix (f := eI) hx10 ?_
    refine ⟨_, _, rfl, ?_⟩
    refine wa_cons ?_
    refine we_cmp (nomark _) ?_
    refine we_ix (fun _ _ => rfl) ?_
    refine we_var 0 rfl (by walk_at "vis") rfl ?_
    refine we_ix (fun _ _ => rfl) ?_
    refine we_var 2 rfl (by walk_at "vis") rfl ?_
    refine we_un rfl ?_
    refine we_int ?_
    refine ⟨_, rfl, ?_⟩
    obtain ⟨x11, hx11, h⟩ := Out.gt h
    refine ⟨_, _, .inl rfl, .inl rfl, ?_⟩
    refine t_ix (f := eI) hx11 ?_
    obtain ⟨x12, hx12, h⟩ := Out.gt h
    refine ⟨_, _, .inl rfl, .inl rfl, ?_⟩
    refine t_ixT (f := eI) hx12 ?_
    refine we_var 1 rfl (by walk_at "vis") rfl ?_
    refine ⟨_, _, .inl rfl, .inl rfl, ?_⟩
    refine opw_eqI ?_
    refine ⟨_, _, rfl, ?_⟩
    refine wa_nil ?_
    refine ⟨lt_ rfl, ?_⟩
    exact ⟨_, rfl, rfl, rfl, h⟩
  · skip
    refine we_tup ?_
    refine wa_cons ?_
    refine we_bin ?_
    refine we_int ?_
    refine we_int ?_
    refine ⟨_, _, .inl rfl, .inl rfl, ?_⟩
    refine opw_sub ?_
    refine ⟨_, _, rfl, ?_⟩
    refine wa_cons ?_
    refine we_bl ?_
    refine ⟨_, _, rfl, ?_⟩
    refine wa_nil ?_
    refine ⟨lt_ rfl, ?_⟩
    exact ⟨_, rfl, rfl, rfl, h⟩
  refine ⟨_, rfl, ?_⟩
  exact h
theorem ok_law_results {f : Addr} {fd : FuncData} (F : Fun K "_law_results" "_law_results" s_law_results f fd) (B : Bn mg) (c_law_read : Cal P w K mg base "_law_read" 3 ["_law_marks_here", "_law_end"] (FM cx (A := (List Int) × Int) (R := (Int × Bool)) (fun a => [(eT eI) a.1, eI a.2]) (fun v => .sh ((eP eI eB) v)) (fun a => m_law_read a.1 a.2))) : FnOk P w K mg base (L2.CX P w) 5 f fd ["_law_drawn_here", "_law_measuring_here", "_law_size"] (spD K (FM cx (A := (List (S × (List Int × Int))) × ((S × Bool × Int)) × Int) (R := List ((Int × Bool))) (fun a => [(eD kZ (eP (eT eI) eI)) a.1, (eP3 eZ eB eI) a.2.1, eI a.2.2]) (fun v => .fr ((eL (eP eI eB)) v)) (fun a => m_law_results a.1 a.2.1 a.2.2))) := by
  refine def_ok F sc_law_results (fun ds G post px h => ?_) (fun cdv A outer s H E F0 T hr ds G post px h tk hp => ?_)
  · obtain ⟨_, rfl, _⟩ := h; rfl
  obtain ⟨⟨drawn_here1, measuring_here2, size3⟩, rfl, h⟩ := h
  unfold m_law_results at h
  try dsimp only at h
  have nd := sc_law_results.nd
  refine wb_env [.sh ((eD kZ (eP (eT eI) eI)) drawn_here1), .sh ((eP3 eZ eB eI) measuring_here2), .sh (eI size3), .no, .no, .no, .no, .no, .no, .no, .no] rfl ?_
  -- 246
  refine wb_cons (ws_asgG [3, 4, 5] ?_)
  refine we_var 1 rfl (by walk_at "vis") rfl ?_
  refine ⟨_, _, rfl, ?_⟩
  refine wg_trip 3 4 5 rfl nd rfl rfl rfl (by walk_at "vis") (by walk_at "vis") (by walk_at "vis") (by decide) (by decide) (by decide) (lt_ rfl) (lt_ rfl) (lt_ rfl) ?_
  refine wb_let h (fun name4 => [.sh ((eD kZ (eP (eT eI) eI)) drawn_here1), .sh ((eP3 eZ eB eI) measuring_here2), .sh (eI size3), .sh (eZ name4), .sh (eB measuring_here2.2.1), .sh (eI measuring_here2.2.2), .no, .no, .no, .no, .no]) rfl fun name4 h => ?_
  refine wb_let h (fun turned5 => [.sh ((eD kZ (eP (eT eI) eI)) drawn_here1), .sh ((eP3 eZ eB eI) measuring_here2), .sh (eI size3), .sh (eZ name4), .sh (eB turned5), .sh (eI measuring_here2.2.2), .no, .no, .no, .no, .no]) rfl fun turned5 h => ?_
  refine wb_let h (fun offset6 => [.sh ((eD kZ (eP (eT eI) eI)) drawn_here1), .sh ((eP3 eZ eB eI) measuring_here2), .sh (eI size3), .sh (eZ name4), .sh (eB turned5), .sh (eI offset6), .no, .no, .no, .no, .no]) rfl fun offset6 h => ?_
  -- 247
  refine wb_cons (ws_unp2 6 7 rfl nd rfl rfl (by walk_at "vis") (by walk_at "vis") ?_)
  refine we_dget (k := kZ) (f := (eP (eT eI) eI)) kZ_inj hr.units (fun _ _ => rfl) ?_
  refine we_var 0 rfl (by walk_at "vis") rfl ?_
  refine we_var 3 rfl (by walk_at "vis") rfl ?_
  obtain ⟨x7, hx7, h⟩ := Out.gt h
  refine ⟨drawn_here1, name4, _, .inl rfl, rfl, hx7, ?_⟩
  refine ⟨_, _, _, rfl, lt_ rfl, lt_ rfl, ?_⟩
  refine wb_let h (fun marks_here8 => [.sh ((eD kZ (eP (eT eI) eI)) drawn_here1), .sh ((eP3 eZ eB eI) measuring_here2), .sh (eI size3), .sh (eZ name4), .sh (eB turned5), .sh (eI offset6), .sh ((eT eI) marks_here8), .sh (eI x7.2), .no, .no, .no]) rfl fun marks_here8 h => ?_
  refine wb_let h (fun error9 => [.sh ((eD kZ (eP (eT eI) eI)) drawn_here1), .sh ((eP3 eZ eB eI) measuring_here2), .sh (eI size3), .sh (eZ name4), .sh (eB turned5), .sh (eI offset6), .sh ((eT eI) marks_here8), .sh (eI error9), .no, .no, .no]) rfl fun error9 h => ?_
  -- 248
  refine wb_cons (ws_set 6 nd rfl (by walk_at "vis") ?_)
  refine we_ifN (eT eI) ?_
  refine wt_val (fun _ => rfl) ?_
  refine we_var 4 rfl (by walk_at "vis") rfl ?_
  refine ⟨_, rfl, ?_⟩
  refine ⟨_, _, _, _, _, _, h, fun _ Q' h => ?_, fun _ Q' h => ?_, fun i10 h => ?_⟩
  · skip
    refine we_t1 (x := "tuple") (id := "tuple") rfl B.tuple bt_tuple ?_
    refine we_b1 (x := "sorted") (id := "sorted") rfl B.sorted bt_sorted ?_
    refine we_lcQ [("_law_mark", 10)] rfl nd (blkOk_by (by rfl)) (lcS_preP (γ := List Int) [("_law_mark", 10)] [.sh ((eD kZ (eP (eT eI) eI)) drawn_here1), .sh ((eP3 eZ eB eI) measuring_here2), .sh (eI size3), .sh (eZ name4), .sh (eB turned5), .sh (eI offset6), .sh ((eT eI) marks_here8), .sh (eI error9), .no, .no, .no] (fun _ : Unit => G) (en := eI) eI ?_)
    refine ti_tup (f := eI) ?_
    refine we_var 6 rfl (by walk_at "vis") rfl ?_
    refine ⟨marks_here8, _, rfl, fun hl12 => ?_⟩
    refine ⟨marks_here8, (), _, _, _, _, rfl, hl12, Wk.refl _, rfl, h, fun s13 x11 Q' h => ?_, fun l14 h => ?_⟩
    · skip
      rintro Y ⟨s1, H1, C1, cl, fp, rfl⟩
      refine wg_name 10 nd rfl (by walk_at "vis") (by decide) (lt_ rfl) ?_
      rintro Y ⟨s1, H1, C1, cl, fp, rfl⟩
      refine we_bin ?_
      refine we_ix (fun _ _ => rfl) ?_
      refine we_var 6 rfl (by walk_at "vis") rfl ?_
      refine we_un rfl ?_
      refine we_int ?_
      refine ⟨_, rfl, ?_⟩
      obtain ⟨x15, hx15, h⟩ := Out.gt h
      refine ⟨_, _, .inl rfl, .inl rfl, ?_⟩
      refine t_ixT (f := eI) hx15 ?_
      refine we_var 10 rfl (by walk_at "vis") rfl ?_
      refine ⟨_, _, .inl rfl, .inl rfl, ?_⟩
      refine opw_sub ?_
      exact ⟨(x15 - x11), (), _, rfl, Wk.refl _, rfl, h⟩
    refine ⟨_, .inl rfl, ?_⟩
    refine c_sorted (ns := l14.1) ?_
    refine ⟨_, .inl rfl, ?_⟩
    refine c_tuple ?_
    exact ⟨_, rfl, rfl, rfl, h⟩
  · skip
    refine we_var 6 rfl (by walk_at "vis") rfl ?_
    exact ⟨_, rfl, rfl, rfl, h⟩
  refine ⟨lt_ rfl, _, rfl, ?_⟩
  refine wb_env [.sh ((eD kZ (eP (eT eI) eI)) drawn_here1), .sh ((eP3 eZ eB eI) measuring_here2), .sh (eI size3), .sh (eZ name4), .sh (eB turned5), .sh (eI offset6), .sh ((eT eI) i10), .sh (eI error9), .no, .no, .no] rfl ?_
  -- 249
  refine wb_setLcQ [("_law_slip", 9)] 8 rfl nd rfl rfl (by rfl) (blkOk_by (by rfl)) (lcS_preP (γ := List ((Int × Bool))) [("_law_slip", 9)] [.sh ((eD kZ (eP (eT eI) eI)) drawn_here1), .sh ((eP3 eZ eB eI) measuring_here2), .sh (eI size3), .sh (eZ name4), .sh (eB turned5), .sh (eI offset6), .sh ((eT eI) i10), .sh (eI error9), .no, .no, .no] (fun _ : Unit => G) (en := eI) (eP eI eB) ?_)
  refine wi_rng2 rfl B.range ?_
  refine we_bin ?_
  refine we_int ?_
  refine we_var 7 rfl (by walk_at "vis") rfl ?_
  refine ⟨_, _, .inl rfl, .inl rfl, ?_⟩
  refine opw_sub ?_
  refine we_bin ?_
  refine we_var 7 rfl (by walk_at "vis") rfl ?_
  refine we_int ?_
  refine ⟨_, _, .inl rfl, .inl rfl, ?_⟩
  refine opw_add ?_
  obtain ⟨g17, h⟩ := Out.gd h
  obtain ⟨g18, h⟩ := Out.gd h
  refine ⟨((0 : Int) - error9), (error9 + (1 : Int)), rfl, rfl, g17, g18, ?_⟩
  obtain ⟨g19, h⟩ := Out.gd h
  refine ⟨(rgI ((0 : Int) - error9) (error9 + (1 : Int))), (), _, _, _, _, rfl, g19, Wk.refl _, rfl, h, fun s20 x16 Q' h => ?_, fun l21 h => ?_⟩
  · skip
    rintro Y ⟨s1, H1, C1, cl, fp, rfl⟩
    refine wg_name 9 nd rfl (by walk_at "vis") (by decide) (lt_ rfl) ?_
    rintro Y ⟨s1, H1, C1, cl, fp, rfl⟩
    refine we_cal (BlkX.tk ⟨_, _, _, _, _, rfl⟩) c_law_read hr rfl ?_
    refine wa_cons ?_
    refine we_var 6 rfl (by walk_at "vis") rfl ?_
    refine ⟨_, _, rfl, ?_⟩
    refine wa_cons ?_
    refine we_bin ?_
    refine we_bin ?_
    refine we_var 2 rfl (by walk_at "vis") rfl ?_
    refine we_var 5 rfl (by walk_at "vis") rfl ?_
    refine ⟨_, _, .inl rfl, .inl rfl, ?_⟩
    refine opw_sub ?_
    refine we_var 9 rfl (by walk_at "vis") rfl ?_
    refine ⟨_, _, .inl rfl, .inl rfl, ?_⟩
    refine opw_add ?_
    refine ⟨_, _, rfl, ?_⟩
    refine wa_nil ?_
    refine ⟨(i10, (size3 - offset6) + x16), rfl, (Out.nx (Out.sb h)).imp (fun r22 h => ?_) (fun _ he => he)⟩
    exact ⟨r22, (), _, rfl, Wk.refl _, rfl, h⟩
  refine ⟨lt_ rfl, _, rfl, ?_⟩
  refine wb_env [.sh ((eD kZ (eP (eT eI) eI)) drawn_here1), .sh ((eP3 eZ eB eI) measuring_here2), .sh (eI size3), .sh (eZ name4), .sh (eB turned5), .sh (eI offset6), .sh ((eT eI) i10), .sh (eI error9), .own ((eL (eP eI eB)) l21.1), .no, .no] rfl ?_
  -- 250
  refine wb_cons (ws_ret ?_)
  refine we_sortUIB rfl hr.units rfl B.sorted rfl B.set ?_
  refine we_var 8 rfl (by walk_at "vis") rfl ?_
  obtain ⟨g23, h⟩ := Out.gd h
  refine ⟨l21.1, .inl rfl, g23, ?_⟩
  refine ⟨_, rfl, ?_⟩
  exact h
theorem ok_law_measuring {f : Addr} {fd : FuncData} (F : Fun K "_law_measuring" "_law_measuring" s_law_measuring f fd) (B : Bn mg) (c_law_next : Cal P w K mg base "_law_next" 3 ["_law_h", "_law_limit"] (FBh (A := Int) (R := Int) (fun a => [eI a]) (fun v => .sh (eI v)) (fun a => m_law_next a))) : FnOk P w K mg base (L2.CX P w) 5 f fd ["_law_h", "_law_drawn_here"] (spD K (FBh (A := List (S × (List Int × Int))) (R := (S × Bool × Int)) (fun a => [(eD kZ (eP (eT eI) eI)) a]) (fun v => .sh ((eP3 eZ eB eI) v)) (fun a => m_law_measuring a))) := by
  refine def_ok F sc_law_measuring (fun ds G post px h => ?_) (fun cdv A outer s H E F0 T hr ds G post px h tk hp => ?_)
  · obtain ⟨_, _, _, _, _, _, rfl, _⟩ := h; rfl
  obtain ⟨drawn_here1, G0, b, g, bx, hne, rfl, rfl, h⟩ := h
  unfold m_law_measuring at h
  try dsimp only at h
  have nd := sc_law_measuring.nd
  refine wb_env [.sh (.adr b), .sh ((eD kZ (eP (eT eI) eI)) drawn_here1), .no] rfl ?_
  -- 252
  refine wb_cons (ws_set 2 nd rfl (by walk_at "vis") ?_)
  refine we_t1 (x := "list") (id := "list") rfl B.list bt_list ?_
  refine we_var 1 rfl (by walk_at "vis") rfl ?_
  refine ⟨_, .inl rfl, ?_⟩
  refine t_listD (k := kZ) (f := (eP (eT eI) eI)) drawn_here1 rfl ?_
  refine ⟨lt_ rfl, _, rfl, ?_⟩
  refine wb_let h (fun names2 => [.sh (.adr b), .sh ((eD kZ (eP (eT eI) eI)) drawn_here1), .own ((eL eZ) names2)]) rfl fun names2 h => ?_
  -- 253
  refine wb_cons (ws_ret ?_)
  refine we_tup ?_
  refine wa_cons ?_
  refine we_ix (fun _ _ => rfl) ?_
  refine we_var 2 rfl (by walk_at "vis") rfl ?_
  refine we_cal tk c_law_next hr rfl ?_
  refine wa_cons ?_
  refine we_var 0 rfl (by walk_at "vis") rfl ?_
  refine ⟨_, _, rfl, ?_⟩
  refine wa_cons ?_
  refine we_b1 (x := "len") (id := "len") rfl B.len bt_len ?_
  refine we_var 2 rfl (by walk_at "vis") rfl ?_
  refine ⟨_, .inl rfl, ?_⟩
  refine t_len (f := eZ) names2 ?_
  refine ⟨_, _, rfl, ?_⟩
  refine wa_nil ?_
  refine ⟨((names2).length : Int), G0, b, g, bx, hne, rfl, rfl, (Out.sb h).imp (fun r3 h => ?_) (fun _ he => he.elim)⟩
  obtain ⟨x4, hx4, h⟩ := Out.gt h
  refine ⟨_, _, .inl rfl, .inl rfl, ?_⟩
  refine t_ix (f := eZ) hx4 ?_
  refine ⟨_, _, rfl, ?_⟩
  refine wa_cons ?_
  refine we_cmp (nomark _) ?_
  refine we_cal tk c_law_next hr rfl ?_
  refine wa_cons ?_
  refine we_var 0 rfl (by walk_at "vis") rfl ?_
  refine ⟨_, _, rfl, ?_⟩
  refine wa_cons ?_
  refine we_int ?_
  refine ⟨_, _, rfl, ?_⟩
  refine wa_nil ?_
  refine ⟨(2 : Int), G0, b, g, r3.2, hne, rfl, rfl, (Out.sb h).imp (fun r5 h => ?_) (fun _ he => he.elim)⟩
  refine we_int ?_
  refine ⟨_, _, .inl rfl, .inl rfl, ?_⟩
  refine opw_eqI ?_
  refine ⟨_, _, rfl, ?_⟩
  refine wa_cons ?_
  refine we_cal tk c_law_next hr rfl ?_
  refine wa_cons ?_
  refine we_var 0 rfl (by walk_at "vis") rfl ?_
  refine ⟨_, _, rfl, ?_⟩
  refine wa_cons ?_
  refine we_ix (fun _ _ => rfl) ?_
  refine we_lst ?_
  refine wa_cons ?_
  refine we_int ?_
  refine ⟨_, _, rfl, ?_⟩
  refine wa_cons ?_
  refine we_int ?_
  refine ⟨_, _, rfl, ?_⟩
  refine wa_nil ?_
  refine ⟨lt_ rfl, ?_⟩
  refine we_cal tk c_law_next hr rfl ?_
  refine wa_cons ?_
  refine we_var 0 rfl (by walk_at "vis") rfl ?_
  refine ⟨_, _, rfl, ?_⟩
  refine wa_cons ?_
  refine we_int ?_
  refine ⟨_, _, rfl, ?_⟩
  refine wa_nil ?_
  refine ⟨(2 : Int), G0, b, g, r5.2, hne, rfl, rfl, (Out.sb h).imp (fun r6 h => ?_) (fun _ he => he.elim)⟩
  obtain ⟨x7, hx7, h⟩ := Out.gt h
  refine ⟨_, _, .inl rfl, .inl rfl, ?_⟩
  refine t_ix (f := eI) hx7 ?_
  refine ⟨_, _, rfl, ?_⟩
  refine wa_nil ?_
  refine ⟨x7, G0, b, g, r6.2, hne, rfl, rfl, (Out.sb h).imp (fun r8 h => ?_) (fun _ he => he.elim)⟩
  refine ⟨_, _, rfl, ?_⟩
  refine wa_nil ?_
  refine ⟨lt_ rfl, ?_⟩
  refine ⟨_, rfl, ?_⟩
  exact h
theorem ok_law_sizes {f : Addr} {fd : FuncData} (F : Fun K "_law_sizes" "_law_sizes" s_law_sizes f fd) (B : Bn mg) (c_law_next : Cal P w K mg base "_law_next" 3 ["_law_h", "_law_limit"] (FBh (A := Int) (R := Int) (fun a => [eI a]) (fun v => .sh (eI v)) (fun a => m_law_next a))) : FnOk P w K mg base (L2.CX P w) 5 f fd ["_law_h", "_law_most"] (spD K (FBh (A := Int) (R := List Int) (fun a => [eI a]) (fun v => .sh ((eT eI) v)) (fun a => m_law_sizes a))) := by
  refine def_ok F sc_law_sizes (fun ds G post px h => ?_) (fun cdv A outer s H E F0 T hr ds G post px h tk hp => ?_)
  · obtain ⟨_, _, _, _, _, _, rfl, _⟩ := h; rfl
  obtain ⟨most1, G0, b, g, bx, hne, rfl, rfl, h⟩ := h
  unfold m_law_sizes at h
  try dsimp only at h
  have nd := sc_law_sizes.nd
  refine wb_env [.sh (.adr b), .sh (eI most1), .no, .no] rfl ?_
  -- 255
  refine wb_cons (ws_set 2 nd rfl (by walk_at "vis") ?_)
  refine we_bin ?_
  refine we_int ?_
  refine we_cal tk c_law_next hr rfl ?_
  refine wa_cons ?_
  refine we_var 0 rfl (by walk_at "vis") rfl ?_
  refine ⟨_, _, rfl, ?_⟩
  refine wa_cons ?_
  refine we_int ?_
  refine ⟨_, _, rfl, ?_⟩
  refine wa_nil ?_
  refine ⟨(20 : Int), G0, b, g, bx, hne, rfl, rfl, (Out.sb h).imp (fun r2 h => ?_) (fun _ he => he.elim)⟩
  refine ⟨_, _, .inl rfl, .inl rfl, ?_⟩
  refine opw_add ?_
  refine ⟨lt_ rfl, _, rfl, ?_⟩
  refine wb_let h (fun begin3 => [.sh (.adr b), .sh (eI most1), .sh (eI begin3), .no]) rfl fun begin3 h => ?_
  -- 256
  refine wb_cons (ws_ret ?_)
  refine we_t1 (x := "tuple") (id := "tuple") rfl B.tuple bt_tuple ?_
  refine we_slice ?_
  refine we_lcQ [("_law_size", 3)] rfl nd (blkOk_by (by rfl)) (lcS_preP (γ := (List Int × Bh)) [("_law_size", 3)] [.sh (.adr b), .sh (eI most1), .sh (eI begin3), .no] (fun s => bxH G0 b g s) (en := eI) eI ?_)
  refine wi_rng2 rfl B.range ?_
  refine we_var 2 rfl (by walk_at "vis") rfl ?_
  refine we_bin ?_
  refine we_var 2 rfl (by walk_at "vis") rfl ?_
  refine we_bin ?_
  refine we_int ?_
  refine we_var 1 rfl (by walk_at "vis") rfl ?_
  refine ⟨_, _, .inl rfl, .inl rfl, ?_⟩
  refine opw_mul (.inl ⟨by decide, by decide⟩) ?_
  refine ⟨_, _, .inl rfl, .inl rfl, ?_⟩
  refine opw_add ?_
  obtain ⟨g5, h⟩ := Out.gd h
  obtain ⟨g6, h⟩ := Out.gd h
  refine ⟨begin3, (begin3 + ((2 : Int) * most1)), rfl, rfl, g5, g6, ?_⟩
  obtain ⟨g7, h⟩ := Out.gd h
  refine ⟨(rgI begin3 (begin3 + ((2 : Int) * most1))), r2.2, _, _, _, _, rfl, g7, Wk.refl _, rfl, h, fun s8 x4 Q' h => ?_, fun l9 h => ?_⟩
  · skip
    rintro Y ⟨s1, H1, C1, cl, fp, rfl⟩
    refine wg_name 3 nd rfl (by walk_at "vis") (by decide) (lt_ rfl) ?_
    rintro Y ⟨s1, H1, C1, cl, fp, rfl⟩
    refine wt_cmp (nomark _) ?_
    refine we_cal (BlkX.tk ⟨_, _, _, _, _, rfl⟩) c_law_next hr rfl ?_
    refine wa_cons ?_
    refine we_var 0 rfl (by walk_at "vis") rfl ?_
    refine ⟨_, _, rfl, ?_⟩
    refine wa_cons ?_
    refine we_int ?_
    refine ⟨_, _, rfl, ?_⟩
    refine wa_nil ?_
    refine ⟨(2 : Int), G0, b, g, s8, hne, rfl, rfl, (Out.nx (Out.sb h)).imp (fun r10 h => ?_) (fun _ he => he)⟩
    refine we_int ?_
    refine ⟨_, _, .inl rfl, .inl rfl, ?_⟩
    refine opw_eqI ?_
    refine ⟨_, rfl, ?_⟩
    refine ⟨fun hc => ?_, fun hc => ?_⟩
    · skip
      have h := (Out.iteb h).1 hc
      rintro Y ⟨s1, H1, C1, cl, fp, rfl⟩
      refine we_var 3 rfl (by walk_at "vis") rfl ?_
      exact ⟨x4, r10.2, _, rfl, Wk.refl _, rfl, h⟩
    have h := (Out.iteb h).2 hc
    exact ⟨r10.2, Wk.refl _, rfl, h⟩
  refine wo_none ?_
  refine wo_some ?_
  refine we_var 1 rfl (by walk_at "vis") rfl ?_
  refine ⟨_, rfl, ?_⟩
  refine ⟨_, .inl rfl, ?_⟩
  refine t_sl (f := eI) (xs := l9.1) ?_
  refine ⟨_, .inl rfl, ?_⟩
  refine c_tuple ?_
  refine ⟨_, rfl, ?_⟩
  exact h
theorem ok_law_parts {f : Addr} {fd : FuncData} (F : Fun K "_law_parts" "_law_parts" s_law_parts f fd) (B : Bn mg) (c_law_results : Cal P w K mg base "_law_results" 5 ["_law_drawn_here", "_law_measuring_here", "_law_size"] (FM cx (A := (List (S × (List Int × Int))) × ((S × Bool × Int)) × Int) (R := List ((Int × Bool))) (fun a => [(eD kZ (eP (eT eI) eI)) a.1, (eP3 eZ eB eI) a.2.1, eI a.2.2]) (fun v => .fr ((eL (eP eI eB)) v)) (fun a => m_law_results a.1 a.2.1 a.2.2))) : FnOk P w K mg base (L2.CX P w) 7 f fd ["_law_drawn_here", "_law_sizes_here", "_law_measuring_here"] (spD K (FM cx (A := (List (S × (List Int × Int))) × (List Int) × ((S × Bool × Int))) (R := List ((Int × Bool) × List Int)) (fun a => [(eD kZ (eP (eT eI) eI)) a.1, (eT eI) a.2.1, (eP3 eZ eB eI) a.2.2]) (fun v => .fr ((eKd w (eP eI eB) (eT eI)) v)) (fun a => m_law_parts a.1 a.2.1 a.2.2))) := by
  refine def_ok F sc_law_parts (fun ds G post px h => ?_) (fun cdv A outer s H E F0 T hr ds G post px h tk hp => ?_)
  · obtain ⟨_, rfl, _⟩ := h; rfl
  obtain ⟨⟨drawn_here1, sizes_here2, measuring_here3⟩, rfl, h⟩ := h
  unfold m_law_parts at h
  try dsimp only at h
  have nd := sc_law_parts.nd
  refine wb_env [.sh ((eD kZ (eP (eT eI) eI)) drawn_here1), .sh ((eT eI) sizes_here2), .sh ((eP3 eZ eB eI) measuring_here3), .no, .no, .no] rfl ?_
  -- 258
  refine wb_cons (ws_set 3 nd rfl (by walk_at "vis") ?_)
  refine we_kdnew ?_
  refine ⟨lt_ rfl, _, rfl, ?_⟩
  refine wb_let h (fun found4 => [.sh ((eD kZ (eP (eT eI) eI)) drawn_here1), .sh ((eT eI) sizes_here2), .sh ((eP3 eZ eB eI) measuring_here3), .own ((eKd w (eP eI eB) (eT eI)) found4), .no, .no]) rfl fun found4 h => ?_
  -- 259
  refine wb_forO (β := List ((Int × Bool) × List Int)) [4] (σT := List ((Int × Bool) × List Int)) (fun s5 => [.sh ((eD kZ (eP (eT eI) eI)) drawn_here1), .sh ((eT eI) sizes_here2), .sh ((eP3 eZ eB eI) measuring_here3), .own ((eKd w (eP eI eB) (eT eI)) s5), .no, .no]) (fun s5 => G) eI hp rfl ?_
  refine ti_tup (f := eI) ?_
  refine we_var 1 rfl (by walk_at "vis") rfl ?_
  refine ⟨sizes_here2, _, rfl, fun hl8 => ?_⟩
  refine ⟨sizes_here2, found4, _, _, _, _, rfl, (.eq (.eq (.eq (.eq (.no (.no .nil)))))), rfl, h, fun s5 x7 Q' h => ?_, fun s6 h => ?_⟩
  · skip
    refine wg_name 4 nd rfl (by walk_at "vis") (by decide) (lt_ rfl) ?_
    refine wb_env [.sh ((eD kZ (eP (eT eI) eI)) drawn_here1), .sh ((eT eI) sizes_here2), .sh ((eP3 eZ eB eI) measuring_here3), .own ((eKd w (eP eI eB) (eT eI)) s5), .sh (eI x7), .no] rfl ?_
    -- 260
    refine wb_forO (β := (List ((Int × Bool) × List Int))) [5] (σT := List ((Int × Bool) × List Int)) (fun s9 => [.sh ((eD kZ (eP (eT eI) eI)) drawn_here1), .sh ((eT eI) sizes_here2), .sh ((eP3 eZ eB eI) measuring_here3), .own ((eKd w (eP eI eB) (eT eI)) s9), .sh (eI x7), .no]) (fun s9 => G) (eP eI eB) hp rfl ?_
    refine ti_lst (f := (eP eI eB)) ?_
    refine we_cal tk c_law_results hr rfl ?_
    refine wa_cons ?_
    refine we_var 0 rfl (by walk_at "vis") rfl ?_
    refine ⟨_, _, rfl, ?_⟩
    refine wa_cons ?_
    refine we_var 2 rfl (by walk_at "vis") rfl ?_
    refine ⟨_, _, rfl, ?_⟩
    refine wa_cons ?_
    refine we_var 4 rfl (by walk_at "vis") rfl ?_
    refine ⟨_, _, rfl, ?_⟩
    refine wa_nil ?_
    refine ⟨(drawn_here1, measuring_here3, x7), rfl, (Out.sb h).imp (fun r12 h => ?_) (fun _ he => he)⟩
    refine ⟨r12, _, rfl, fun hl13 => ?_⟩
    refine ⟨r12, s5, _, _, _, _, rfl, (.eq (.eq (.eq (.eq (.eq (.no .nil)))))), rfl, h, fun s9 x11 Q' h => ?_, fun s10 h => ?_⟩
    · skip
      refine wg_name 5 nd rfl (by walk_at "vis") (by decide) (lt_ rfl) ?_
      refine wb_env [.sh ((eD kZ (eP (eT eI) eI)) drawn_here1), .sh ((eT eI) sizes_here2), .sh ((eP3 eZ eB eI) measuring_here3), .own ((eKd w (eP eI eB) (eT eI)) s9), .sh (eI x7), .sh ((eP eI eB) x11)] rfl ?_
      -- 261
      refine wb_cons (ws_kdput (ek := (eP eI eB)) (f := (eT eI)) (kyc_of (kye_pair kye_int kye_bool) (fun _ => ⟨_, rfl⟩)) hr.units ?_)
      refine we_bin ?_
      refine we_kdgetT (ek := (eP eI eB)) (f := (eT eI)) (kyc_of (kye_pair kye_int kye_bool) (fun _ => ⟨_, rfl⟩)) hr.units ?_
      refine we_var 3 rfl (by walk_at "vis") rfl ?_
      refine ⟨s9, .inl rfl, ?_⟩
      refine we_var 5 rfl (by walk_at "vis") rfl ?_
      refine ⟨x11, rfl, ?_⟩
      refine we_tup ?_
      refine wa_nil ?_
      refine ⟨by decide, ?_⟩
      refine ⟨([] : List Int), _, s9, rfl, .inl rfl, ?_⟩
      refine we_tup ?_
      refine wa_cons ?_
      refine we_var 4 rfl (by walk_at "vis") rfl ?_
      refine ⟨_, _, rfl, ?_⟩
      refine wa_nil ?_
      refine ⟨lt_ rfl, ?_⟩
      obtain ⟨g14, h⟩ := Out.gd h
      refine ⟨_, _, .inl rfl, .inl rfl, ?_⟩
      refine t_catT (f := eI) ((dget s9 x11).getD ([] : List Int)) [x7] g14 ?_
      refine ⟨(((dget s9 x11).getD ([] : List Int)) ++ [x7]), _, rfl, ?_⟩
      refine we_var 3 rfl (by walk_at "vis") rfl ?_
      refine ⟨_, rfl, ?_⟩
      refine we_var 5 rfl (by walk_at "vis") rfl ?_
      obtain ⟨g15, h⟩ := Out.gd h
      refine ⟨s9, x11, rfl, rfl, g15, ?_⟩
      refine wb_let h (fun found16 => [.sh ((eD kZ (eP (eT eI) eI)) drawn_here1), .sh ((eT eI) sizes_here2), .sh ((eP3 eZ eB eI) measuring_here3), .own ((eKd w (eP eI eB) (eT eI)) found16), .sh (eI x7), .sh ((eP eI eB) x11)]) rfl fun found16 h => ?_
      exact wb_nil ⟨found16, (.eq (.eq (.eq (.eq (.eq (.no .nil)))))), rfl, h⟩
    exact wb_nil ⟨s10, (.eq (.eq (.eq (.eq (.no (.no .nil)))))), rfl, h⟩
  -- 262
  refine wb_cons (ws_ret ?_)
  refine we_var 3 rfl (by walk_at "vis") rfl ?_
  refine ⟨_, rfl, ?_⟩
  exact h
theorem ok_law_least_zero {f : Addr} {fd : FuncData} (F : Fun K "_law_least" "_law_least" s_law_least f fd) (B : Bn mg) : FnOk P w K mg base (L2.CX P w) (9 + 2 * 0) f fd ["_law_drawn_here", "_law_sizes_here", "_law_measurings"] (spD K (FM cx (A := (List (S × (List Int × Int))) × (List Int) × (List ((S × Bool × Int)))) (R := Int) (fun a => [(eD kZ (eP (eT eI) eI)) a.1, (eT eI) a.2.1, (eL (eP3 eZ eB eI)) a.2.2]) (fun v => .sh (eI v)) (fun a => m_law_least 0 a.1 a.2.1 a.2.2))) := by
  refine def_ok F sc_law_least (fun ds G post px h => ?_) (fun cdv A outer s H E F0 T hr ds G post px h tk hp => ?_)
  · obtain ⟨_, rfl, _⟩ := h; rfl
  obtain ⟨_, _, h⟩ := h; unfold m_law_least at h; exact h.elim
theorem ok_law_least {n : Nat} {f : Addr} {fd : FuncData} (F : Fun K "_law_least" "_law_least" s_law_least f fd) (B : Bn mg) (c_law_parts : Cal P w K mg base "_law_parts" 7 ["_law_drawn_here", "_law_sizes_here", "_law_measuring_here"] (FM cx (A := (List (S × (List Int × Int))) × (List Int) × ((S × Bool × Int))) (R := List ((Int × Bool) × List Int)) (fun a => [(eD kZ (eP (eT eI) eI)) a.1, (eT eI) a.2.1, (eP3 eZ eB eI) a.2.2]) (fun v => .fr ((eKd w (eP eI eB) (eT eI)) v)) (fun a => m_law_parts a.1 a.2.1 a.2.2))) (c_law_least : Cal P w K mg base "_law_least" (9 + 2 * n) ["_law_drawn_here", "_law_sizes_here", "_law_measurings"] (FM cx (A := (List (S × (List Int × Int))) × (List Int) × (List ((S × Bool × Int)))) (R := Int) (fun a => [(eD kZ (eP (eT eI) eI)) a.1, (eT eI) a.2.1, (eL (eP3 eZ eB eI)) a.2.2]) (fun v => .sh (eI v)) (fun a => m_law_least n a.1 a.2.1 a.2.2))) : FnOk P w K mg base (L2.CX P w) (9 + 2 * (n + 1)) f fd ["_law_drawn_here", "_law_sizes_here", "_law_measurings"] (spD K (FM cx (A := (List (S × (List Int × Int))) × (List Int) × (List ((S × Bool × Int)))) (R := Int) (fun a => [(eD kZ (eP (eT eI) eI)) a.1, (eT eI) a.2.1, (eL (eP3 eZ eB eI)) a.2.2]) (fun v => .sh (eI v)) (fun a => m_law_least (n + 1) a.1 a.2.1 a.2.2))) := by
  refine def_ok F sc_law_least (fun ds G post px h => ?_) (fun cdv A outer s H E F0 T hr ds G post px h tk hp => ?_)
  · obtain ⟨_, rfl, _⟩ := h; rfl
  obtain ⟨⟨drawn_here1, sizes_here2, measurings3⟩, rfl, h⟩ := h
  replace hr := (show Room (9 + 2 * n + 1) _ from hr)
  unfold m_law_least at h
  try dsimp only at h
  have nd := sc_law_least.nd
  refine wb_env [.sh ((eD kZ (eP (eT eI) eI)) drawn_here1), .sh ((eT eI) sizes_here2), .sh ((eL (eP3 eZ eB eI)) measurings3), .no, .no, .no, .no, .no] rfl ?_
  -- 264
  refine wb_cons (ws_if ?_)
  refine wt_cmp (nomark _) ?_
  refine we_b1 (x := "len") (id := "len") rfl B.len bt_len ?_
  refine we_var 1 rfl (by walk_at "vis") rfl ?_
  refine ⟨_, .inl rfl, ?_⟩
  refine t_lenT (f := eI) sizes_here2 ?_
  refine we_int ?_
  refine ⟨_, _, .inl rfl, .inl rfl, ?_⟩
  refine opw_lt ?_
  refine ⟨_, rfl, ?_⟩
  refine ⟨fun hc => ?_, fun hc => ?_⟩
  · skip
    have h := (Out.iteb h).1 hc
    -- 265
    refine wb_cons (ws_ret ?_)
    refine we_int ?_
    refine ⟨_, rfl, ?_⟩
    exact h
  have h := (Out.iteb h).2 hc
  refine wb_nil ?_
  -- 266
  refine wb_cons (ws_set 3 nd rfl (by walk_at "vis") ?_)
  refine we_int ?_
  refine ⟨lt_ rfl, _, rfl, ?_⟩
  refine wb_let h (fun best4 => [.sh ((eD kZ (eP (eT eI) eI)) drawn_here1), .sh ((eT eI) sizes_here2), .sh ((eL (eP3 eZ eB eI)) measurings3), .sh (eI best4), .no, .no, .no, .no]) rfl fun best4 h => ?_
  -- 267
  refine wb_forO (β := Int) [4] (σT := Int) (fun s5 => [.sh ((eD kZ (eP (eT eI) eI)) drawn_here1), .sh ((eT eI) sizes_here2), .sh ((eL (eP3 eZ eB eI)) measurings3), .sh (eI s5), .no, .no, .no, .no]) (fun s5 => G) eI hp rfl ?_
  refine wi_rng1 rfl B.range ?_
  refine we_b1 (x := "len") (id := "len") rfl B.len bt_len ?_
  refine we_var 2 rfl (by walk_at "vis") rfl ?_
  refine ⟨_, .inl rfl, ?_⟩
  refine t_len (f := (eP3 eZ eB eI)) measurings3 ?_
  obtain ⟨g8, h⟩ := Out.gd h
  refine ⟨((measurings3).length : Int), rfl, g8, ?_⟩
  refine ⟨(rgI 0 ((measurings3).length : Int)), best4, _, _, _, _, rfl, (.eq (.eq (.eq (.eq (.no (.no (.no (.no .nil)))))))), rfl, h, fun s5 x7 Q' h => ?_, fun s6 h => ?_⟩
  · skip
    refine wg_name 4 nd rfl (by walk_at "vis") (by decide) (lt_ rfl) ?_
    refine wb_env [.sh ((eD kZ (eP (eT eI) eI)) drawn_here1), .sh ((eT eI) sizes_here2), .sh ((eL (eP3 eZ eB eI)) measurings3), .sh (eI s5), .sh (eI x7), .no, .no, .no] rfl ?_
    -- 268
    refine wb_cons (ws_set 5 nd rfl (by walk_at "vis") ?_)
    refine we_cal tk c_law_parts hr rfl ?_
    refine wa_cons ?_
    refine we_var 0 rfl (by walk_at "vis") rfl ?_
    refine ⟨_, _, rfl, ?_⟩
    refine wa_cons ?_
    refine we_var 1 rfl (by walk_at "vis") rfl ?_
    refine ⟨_, _, rfl, ?_⟩
    refine wa_cons ?_
    refine we_ix (fun _ _ => rfl) ?_
    refine we_var 2 rfl (by walk_at "vis") rfl ?_
    refine we_var 4 rfl (by walk_at "vis") rfl ?_
    obtain ⟨x9, hx9, h⟩ := Out.gt h
    refine ⟨_, _, .inl rfl, .inl rfl, ?_⟩
    refine t_ix (f := (eP3 eZ eB eI)) hx9 ?_
    refine ⟨_, _, rfl, ?_⟩
    refine wa_nil ?_
    refine ⟨(drawn_here1, sizes_here2, x9), rfl, (Out.sb h).imp (fun r10 h => ?_) (fun _ he => he)⟩
    refine ⟨lt_ rfl, _, rfl, ?_⟩
    refine wb_env [.sh ((eD kZ (eP (eT eI) eI)) drawn_here1), .sh ((eT eI) sizes_here2), .sh ((eL (eP3 eZ eB eI)) measurings3), .sh (eI s5), .sh (eI x7), .own ((eKd w (eP eI eB) (eT eI)) r10), .no, .no] rfl ?_
    -- 269
    refine wb_join (β := (Int)) (σT := Int) (fun s11 => [.sh ((eD kZ (eP (eT eI) eI)) drawn_here1), .sh ((eT eI) sizes_here2), .sh ((eL (eP3 eZ eB eI)) measurings3), .sh (eI s11), .sh (eI x7), .sh ((eKd w (eP eI eB) (eT eI)) r10), .no, .no]) (fun s11 => G) h (fun Q' h => ?_) (fun s11 h => ?_)
    · skip
      refine ws_if ?_
      refine wt_w ?_
      refine ww_orB ?_
      refine wt_cmp rfl ?_
      refine we_var 1 rfl (by walk_at "vis") rfl ?_
      refine we_listValsK (ek := (eP eI eB)) (f := (eT eI)) rfl rfl B.list ?_
      refine we_lockVK ?_
      refine we_var 5 rfl (by walk_at "vis") rfl ?_
      refine ⟨_, _, _, _, rfl, rfl, ?_⟩
      refine ⟨r10, _, rfl, fun _ => ?_⟩
      refine ⟨_, _, .inl rfl, .inl rfl, ?_⟩
      refine t_ninM (eqc_tup eqc_int) ?_ sizes_here2 (r10.map (·.2)) ?_
      · exact Room.u65 hr
      refine ⟨_, rfl, ?_⟩
      refine ⟨(decide ((1 : Int) < ((measurings3).length : Int))), fun _ => ?_, ?_⟩
      · skip
        refine ww_or1 ?_
        refine wt_cmp (nomark _) ?_
        refine we_b1 (x := "len") (id := "len") rfl B.len bt_len ?_
        refine we_var 2 rfl (by walk_at "vis") rfl ?_
        refine ⟨_, .inl rfl, ?_⟩
        refine t_len (f := (eP3 eZ eB eI)) measurings3 ?_
        refine we_int ?_
        refine ⟨_, _, .inl rfl, .inl rfl, ?_⟩
        refine opw_gt ?_
        refine ⟨_, rfl, ?_⟩
        exact ⟨rfl, rfl, rfl⟩
      refine ⟨fun hc => ?_, fun hc => ?_⟩
      · skip
        have h := (Out.iteb h).1 hc
        -- 270
        refine wb_cons (ws_set 6 nd rfl (by walk_at "vis") ?_)
        refine we_bin ?_
        refine we_slice ?_
        refine we_var 2 rfl (by walk_at "vis") rfl ?_
        refine wo_none ?_
        refine wo_some ?_
        refine we_var 4 rfl (by walk_at "vis") rfl ?_
        refine ⟨_, rfl, ?_⟩
        refine ⟨_, .inl rfl, ?_⟩
        refine t_sl (f := (eP3 eZ eB eI)) (xs := measurings3) ?_
        refine we_slice ?_
        refine we_var 2 rfl (by walk_at "vis") rfl ?_
        refine wo_some ?_
        refine we_bin ?_
        refine we_var 4 rfl (by walk_at "vis") rfl ?_
        refine we_int ?_
        refine ⟨_, _, .inl rfl, .inl rfl, ?_⟩
        refine opw_add ?_
        refine ⟨_, rfl, ?_⟩
        refine wo_none ?_
        refine ⟨_, .inl rfl, ?_⟩
        refine t_sl (f := (eP3 eZ eB eI)) (xs := measurings3) ?_
        obtain ⟨g12, h⟩ := Out.gd h
        refine ⟨_, _, .inl rfl, .inl rfl, ?_⟩
        refine t_cat (f := (eP3 eZ eB eI)) (pcut measurings3 none (some x7)) (pcut measurings3 (some (x7 + (1 : Int))) none) g12 ?_
        refine ⟨lt_ rfl, _, rfl, ?_⟩
        refine wb_let h (fun rest13 => [.sh ((eD kZ (eP (eT eI) eI)) drawn_here1), .sh ((eT eI) sizes_here2), .sh ((eL (eP3 eZ eB eI)) measurings3), .sh (eI s5), .sh (eI x7), .sh ((eKd w (eP eI eB) (eT eI)) r10), .own ((eL (eP3 eZ eB eI)) rest13), .no]) rfl fun rest13 h => ?_
        -- 271
        refine wb_cons (ws_set 3 nd rfl (by walk_at "vis") ?_)
        refine we_b2 (x := "min") (id := "min") rfl B.min bt_min ?_
        refine we_var 3 rfl (by walk_at "vis") rfl ?_
        refine we_bin ?_
        refine we_int ?_
        refine we_b1 (x := "max") (id := "max") rfl B.max bt_max ?_
        refine we_frzS 6 rfl rfl ?_
        refine we_lcQ [("_law_one", 7)] rfl nd (blkOk_by (by rfl)) (lcS_preP (γ := (Int)) [("_law_one", 7)] [.sh ((eD kZ (eP (eT eI) eI)) drawn_here1), .sh ((eT eI) sizes_here2), .sh ((eL (eP3 eZ eB eI)) measurings3), .sh (eI s5), .sh (eI x7), .sh ((eKd w (eP eI eB) (eT eI)) r10), .sh ((eL (eP3 eZ eB eI)) rest13), .no] (fun _ : Unit => G) (en := (eP eI eB)) eI ?_)
        refine ti_keysK (ek := (eP eI eB)) (f := (eT eI)) ?_
        refine we_var 5 rfl (by walk_at "vis") rfl ?_
        refine ⟨r10, _, rfl, fun hl15 => ?_⟩
        refine ⟨(r10.map (·.1)), (), _, _, _, _, rfl, hl15, Wk.refl _, rfl, h, fun s16 x14 Q' h => ?_, fun l17 h => ?_⟩
        · skip
          rintro Y ⟨s1, H1, C1, cl, fp, rfl⟩
          refine wg_name 7 nd rfl (by walk_at "vis") (by decide) (lt_ rfl) ?_
          rintro Y ⟨s1, H1, C1, cl, fp, rfl⟩
          refine we_cal (BlkX.tk ⟨_, _, _, _, _, rfl⟩) c_law_least hr rfl ?_
          refine wa_cons ?_
          refine we_var 0 rfl (by walk_at "vis") rfl ?_
          refine ⟨_, _, rfl, ?_⟩
          refine wa_cons ?_
          refine we_kdget (ek := (eP eI eB)) (f := (eT eI)) (kyc_of (kye_pair kye_int kye_bool) (fun _ => ⟨_, rfl⟩)) (by exact hr.units) (fun _ _ => rfl) ?_
          refine we_var 5 rfl (by walk_at "vis") rfl ?_
          refine we_var 7 rfl (by walk_at "vis") rfl ?_
          obtain ⟨x18, hx18, h⟩ := Out.gt h
          refine ⟨r10, x14, _, .inl rfl, .inl rfl, hx18, ?_⟩
          refine ⟨_, _, rfl, ?_⟩
          refine wa_cons ?_
          refine we_var 6 rfl (by walk_at "vis") rfl ?_
          refine ⟨_, _, rfl, ?_⟩
          refine wa_nil ?_
          refine ⟨(drawn_here1, x18, rest13), rfl, (Out.nx (Out.sb h)).imp (fun r19 h => ?_) (fun _ he => he)⟩
          exact ⟨r19, (), _, rfl, Wk.refl _, rfl, h⟩
        refine ⟨_, .inl rfl, ?_⟩
        obtain ⟨x20, hx20, h⟩ := Out.gt h
        refine t_max rfl hx20 ?_
        refine ⟨_, _, .inl rfl, .inl rfl, ?_⟩
        refine opw_add ?_
        refine ⟨_, _, .inl rfl, .inl rfl, ?_⟩
        refine c_min2 rfl ?_
        refine ⟨lt_ rfl, _, rfl, ?_⟩
        refine wb_let h (fun best21 => [.sh ((eD kZ (eP (eT eI) eI)) drawn_here1), .sh ((eT eI) sizes_here2), .sh ((eL (eP3 eZ eB eI)) measurings3), .sh (eI best21), .sh (eI x7), .sh ((eKd w (eP eI eB) (eT eI)) r10), .sh ((eL (eP3 eZ eB eI)) rest13), .no]) rfl fun best21 h => ?_
        exact wb_nil ⟨best21, (.eq (.eq (.eq (.eq (.eq (.eq (.no (.no .nil)))))))), rfl, h⟩
      have h := (Out.iteb h).2 hc
      exact wb_nil ⟨s5, (.eq (.eq (.eq (.eq (.eq (.eq (.no (.no .nil)))))))), rfl, h⟩
    exact wb_nil ⟨s11, (.eq (.eq (.eq (.eq (.no (.no (.no (.no .nil)))))))), rfl, h⟩
  -- 272
  refine wb_cons (ws_ret ?_)
  refine we_var 3 rfl (by walk_at "vis") rfl ?_
  refine ⟨_, rfl, ?_⟩
  exact h
theorem cal_law_least (n : Nat) {f : Addr} {fd : FuncData} (F : Fun K "_law_least" "_law_least" s_law_least f fd) (B : Bn mg) (c_law_parts : Cal P w K mg base "_law_parts" 7 ["_law_drawn_here", "_law_sizes_here", "_law_measuring_here"] (FM cx (A := (List (S × (List Int × Int))) × (List Int) × ((S × Bool × Int))) (R := List ((Int × Bool) × List Int)) (fun a => [(eD kZ (eP (eT eI) eI)) a.1, (eT eI) a.2.1, (eP3 eZ eB eI) a.2.2]) (fun v => .fr ((eKd w (eP eI eB) (eT eI)) v)) (fun a => m_law_parts a.1 a.2.1 a.2.2))) (mgf : mg "_law_least" = some (.ref f)) (kp : PySem.W.keepIn K (.ref f) = true) (bd : L2.Binds K fd ["_law_drawn_here", "_law_sizes_here", "_law_measurings"] []) : Cal P w K mg base "_law_least" (9 + 2 * n) ["_law_drawn_here", "_law_sizes_here", "_law_measurings"] (FM cx (A := (List (S × (List Int × Int))) × (List Int) × (List ((S × Bool × Int)))) (R := Int) (fun a => [(eD kZ (eP (eT eI) eI)) a.1, (eT eI) a.2.1, (eL (eP3 eZ eB eI)) a.2.2]) (fun v => .sh (eI v)) (fun a => m_law_least n a.1 a.2.1 a.2.2)) := by
  induction n with
  | zero => exact ⟨f, fd, ok_law_least_zero F B, mgf, kp, bd⟩
  | succ n ih => exact ⟨f, fd, ok_law_least F B c_law_parts ih, mgf, kp, bd⟩
theorem ok_law {f : Addr} {fd : FuncData} (F : Fun K "law" "law" s_law f fd) (B : Bn mg) (c_law_alike_0 : Cal P w K mg base "_law_alike" 3 ["_law_found", "_law_due"] (alikeF 0)) (c_law_mix : Cal P w K mg base "_law_mix" 3 ["_law_script", "_law_seed"] (FMix m_law_mix)) (c_law_drawn : Cal P w K mg base "_law_drawn" 7 ["_law_h", "_law_most", "_law_wide"] (FBh (A := Int × Int) (R := List (S × (List Int × Int))) (fun a => [eI a.1, eI a.2]) (fun v => .fr ((eD kZ (eP (eT eI) eI)) v)) (fun a => m_law_drawn a.1 a.2))) (c_law_least : Cal P w K mg base "_law_least" 21 ["_law_drawn_here", "_law_sizes_here", "_law_measurings"] (FM cx (A := (List (S × (List Int × Int))) × (List Int) × (List ((S × Bool × Int)))) (R := Int) (fun a => [(eD kZ (eP (eT eI) eI)) a.1, (eT eI) a.2.1, (eL (eP3 eZ eB eI)) a.2.2]) (fun v => .sh (eI v)) (fun a => m_law_least 6 a.1 a.2.1 a.2.2))) (c_law_measuring : Cal P w K mg base "_law_measuring" 5 ["_law_h", "_law_drawn_here"] (FBh (A := List (S × (List Int × Int))) (R := (S × Bool × Int)) (fun a => [(eD kZ (eP (eT eI) eI)) a]) (fun v => .sh ((eP3 eZ eB eI) v)) (fun a => m_law_measuring a))) (c_law_next : Cal P w K mg base "_law_next" 3 ["_law_h", "_law_limit"] (FBh (A := Int) (R := Int) (fun a => [eI a]) (fun v => .sh (eI v)) (fun a => m_law_next a))) (c_law_parts : Cal P w K mg base "_law_parts" 7 ["_law_drawn_here", "_law_sizes_here", "_law_measuring_here"] (FM cx (A := (List (S × (List Int × Int))) × (List Int) × ((S × Bool × Int))) (R := List ((Int × Bool) × List Int)) (fun a => [(eD kZ (eP (eT eI) eI)) a.1, (eT eI) a.2.1, (eP3 eZ eB eI) a.2.2]) (fun v => .fr ((eKd w (eP eI eB) (eT eI)) v)) (fun a => m_law_parts a.1 a.2.1 a.2.2))) (c_law_rack : Cal P w K mg base "_law_rack" 8 ["_law_drawn_here"] (FM cx (A := List (S × (List Int × Int))) (R := Rak) (fun a => [(eD kZ (eP (eT eI) eI)) a]) (fun v => .sh ((eRak C_Rack C_Ruler) v)) (fun a => m_law_rack a))) (c_law_sizes : Cal P w K mg base "_law_sizes" 5 ["_law_h", "_law_most"] (FBh (A := Int) (R := List Int) (fun a => [eI a]) (fun v => .sh ((eT eI) v)) (fun a => m_law_sizes a))) (c_fewest_measurings : Cal P w K mg base "fewest_measurings" 36 ["rack", "lengths", "measurings"] (FM cx (A := Rak × (List Int) × (List ((S × Bool × Int)))) (R := Option (Int)) (fun a => [(eRak C_Rack C_Ruler) a.1, (eT eI) a.2.1, (eL (eP3 eZ eB eI)) a.2.2]) (fun v => .sh ((eO eI) v)) (fun a => m_fewest_measurings a.1 a.2.1 a.2.2))) (c_next_measuring : Cal P w K mg base "next_measuring" 10 ["rack", "lengths", "measurings"] (FM cx (A := Rak × (List Int) × (List ((S × Bool × Int)))) (R := Option (Int)) (fun a => [(eRak C_Rack C_Ruler) a.1, (eT eI) a.2.1, (eL (eP3 eZ eB eI)) a.2.2]) (fun v => .sh ((eO eI) v)) (fun a => m_next_measuring a.1 a.2.1 a.2.2))) : FnOk P w K mg base (L2.CX P w) 38 f fd ["_law_script"] (spD K (FLaw m_law)) := by
  refine def_ok F sc_law (fun ds G post px h => ?_) (fun cdv A outer s H E F0 T hr ds G0 post px h tk hp => ?_)
  · obtain ⟨_, rfl, _⟩ := h; rfl
  obtain ⟨script1, rfl, h⟩ := h
  unfold m_law at h
  try dsimp only at h
  have nd := sc_law.nd
  refine wb_env [.sh (D.scr script1), .no, .no, .no, .no, .no, .no, .no, .no, .no, .no, .no, .no] rfl ?_
  -- 274
  refine wb_cons (ws_set 1 nd rfl (by walk_at "vis") ?_)
  refine we_cal tk c_law_mix hr rfl ?_
  refine wa_cons ?_
  refine we_var 0 rfl (by walk_at "vis") rfl ?_
  refine ⟨_, _, rfl, ?_⟩
  refine wa_cons ?_
  refine we_int ?_
  refine ⟨_, _, rfl, ?_⟩
  refine wa_nil ?_
  obtain ⟨g2, h⟩ := Out.gd h
  refine ⟨script1, (32 : Int), g2, rfl, fun b g hne hb0 hg0 => ?_⟩
  rw [← mixT_pos (m := m_law_mix) (seed := (32 : Int)) g2]
  refine ⟨lt_ rfl, _, rfl, ?_⟩
  refine wb_env [.sh (D.scr script1), .sh (.adr b), .no, .no, .no, .no, .no, .no, .no, .no, .no, .no, .no] rfl ?_
  have hB : ∀ x', GS [bhA b g x'] (bxH G0 b g x') := fun x' => GS.boxH0 hne x'
  -- 275
  refine wb_forR (β := Bool) [2] (σT := Bh) (ρ := (Bool × Bh)) (fun s3 => [.sh (D.scr script1), .sh (.adr b), .no, .no, .no, .no, .no, .no, .no, .no, .no, .no, .no]) (fun s3 => bxH G0 b g s3) eI (fun v => (fun v => .sh (eB v)) v.1) (fun v => bxH G0 b g v.2) hp rfl ?_
  refine wi_rng1 rfl B.range ?_
  refine we_int ?_
  refine ⟨(3 : Int), rfl, ⟨by decide, by decide⟩, ?_⟩
  refine ⟨(rgI 0 (3 : Int)), (mixT m_law_mix script1 (32 : Int)), _, _, _, _, rfl, (.eq (.eq (.no (.no (.no (.no (.no (.no (.no (.no (.no (.no (.no .nil))))))))))))), rfl, h, fun s3 x5 Q' h => ?_, (fun v h => h _), fun s4 h => ?_⟩
  · skip
    refine wg_name 2 nd rfl (by walk_at "vis") (by decide) (lt_ rfl) ?_
    refine wb_env [.sh (D.scr script1), .sh (.adr b), .sh (eI x5), .no, .no, .no, .no, .no, .no, .no, .no, .no, .no] rfl ?_
    -- 276
    refine wb_cons (ws_set 3 nd rfl (by walk_at "vis") ?_)
    refine we_cal tk c_law_drawn hr rfl ?_
    refine wa_cons ?_
    refine we_var 1 rfl (by walk_at "vis") rfl ?_
    refine ⟨_, _, rfl, ?_⟩
    refine wa_cons ?_
    refine we_int ?_
    refine ⟨_, _, rfl, ?_⟩
    refine wa_cons ?_
    refine we_int ?_
    refine ⟨_, _, rfl, ?_⟩
    refine wa_nil ?_
    refine ⟨((3 : Int), (6 : Int)), G0, b, g, s3, hne, rfl, rfl, (Out.sb h).imp (fun r6 h => ?_) (fun _ he => he.elim)⟩
    refine ⟨lt_ rfl, _, rfl, ?_⟩
    refine wb_env [.sh (D.scr script1), .sh (.adr b), .sh (eI x5), .own ((eD kZ (eP (eT eI) eI)) r6.1), .no, .no, .no, .no, .no, .no, .no, .no, .no] rfl ?_
    -- 277
    refine wb_cons (ws_par 4 5 rfl nd rfl rfl (by decide) rfl rfl (by rfl) ?_)
    refine we_cal tk c_law_rack hr rfl ?_
    refine wa_cons ?_
    refine we_lockV ?_
    refine we_var 3 rfl (by walk_at "vis") rfl ?_
    refine ⟨_, _, _, rfl, rfl, ?_⟩
    refine ⟨_, _, rfl, ?_⟩
    refine wa_nil ?_
    refine ⟨r6.1, rfl, (Out.sb h).imp (fun r7 h => ?_) (fun _ he => he.elim)⟩
    refine ⟨_, _, rfl, ?_⟩
    refine we_cal tk c_law_sizes hr rfl ?_
    refine wa_cons ?_
    refine we_var 1 rfl (by walk_at "vis") rfl ?_
    refine ⟨_, _, rfl, ?_⟩
    refine wa_cons ?_
    refine we_int ?_
    refine ⟨_, _, rfl, ?_⟩
    refine wa_nil ?_
    refine ⟨(6 : Int), G0, b, g, r6.2, hne, rfl, rfl, (Out.sb h).imp (fun r8 h => ?_) (fun _ he => he.elim)⟩
    refine ⟨_, _, rfl, lt_ rfl, lt_ rfl, ?_⟩
    refine wb_let h (fun rack_here9 => [.sh (D.scr script1), .sh (.adr b), .sh (eI x5), .sh ((eD kZ (eP (eT eI) eI)) r6.1), .sh ((eRak C_Rack C_Ruler) rack_here9), .sh ((eT eI) r8.1), .no, .no, .no, .no, .no, .no, .no]) rfl fun rack_here9 h => ?_
    refine wb_let h (fun sizes_here10 => [.sh (D.scr script1), .sh (.adr b), .sh (eI x5), .sh ((eD kZ (eP (eT eI) eI)) r6.1), .sh ((eRak C_Rack C_Ruler) rack_here9), .sh ((eT eI) sizes_here10), .no, .no, .no, .no, .no, .no, .no]) rfl fun sizes_here10 h => ?_
    -- 278
    refine wb_setLcQ [("_law_k", 11)] 6 rfl nd rfl rfl (by rfl) (blkOk_by (by rfl)) (lcS_preP (γ := (Out.Rt (Bh) (Bool × Bh))) [("_law_k", 11)] [.sh (D.scr script1), .sh (.adr b), .sh (eI x5), .sh ((eD kZ (eP (eT eI) eI)) r6.1), .sh ((eRak C_Rack C_Ruler) rack_here9), .sh ((eT eI) sizes_here10), .no, .no, .no, .no, .no, .no, .no] (fun s => bxH G0 b g s) (en := eI) (eP3 eZ eB eI) ?_)
    refine wi_rng1 rfl B.range ?_
    refine we_cal tk c_law_next hr rfl ?_
    refine wa_cons ?_
    refine we_var 1 rfl (by walk_at "vis") rfl ?_
    refine ⟨_, _, rfl, ?_⟩
    refine wa_cons ?_
    refine we_int ?_
    refine ⟨_, _, rfl, ?_⟩
    refine wa_nil ?_
    refine ⟨(5 : Int), G0, b, g, r8.2, hne, rfl, rfl, (Out.sb h).imp (fun r12 h => ?_) (fun _ he => he.elim)⟩
    obtain ⟨g13, h⟩ := Out.gd h
    refine ⟨r12.1, rfl, g13, ?_⟩
    obtain ⟨g14, h⟩ := Out.gd h
    refine ⟨(rgI 0 r12.1), r12.2, _, _, _, _, rfl, g14, Wk.refl _, rfl, h, fun s15 x11 Q' h => ?_, fun l16 h => ?_⟩
    · skip
      rintro Y ⟨s1, H1, C1, cl, fp, rfl⟩
      refine wg_name 11 nd rfl (by walk_at "vis") (by decide) (lt_ rfl) ?_
      rintro Y ⟨s1, H1, C1, cl, fp, rfl⟩
      refine we_cal (BlkX.tk ⟨_, _, _, _, _, rfl⟩) c_law_measuring hr rfl ?_
      refine wa_cons ?_
      refine we_var 1 rfl (by walk_at "vis") rfl ?_
      refine ⟨_, _, rfl, ?_⟩
      refine wa_cons ?_
      refine we_var 3 rfl (by walk_at "vis") rfl ?_
      refine ⟨_, _, rfl, ?_⟩
      refine wa_nil ?_
      refine ⟨r6.1, G0, b, g, s15, hne, rfl, rfl, (Out.nx (Out.sb h)).imp (fun r17 h => ?_) (fun _ he => he)⟩
      exact ⟨r17.1, r17.2, _, rfl, Wk.refl _, rfl, h⟩
    refine ⟨lt_ rfl, _, rfl, ?_⟩
    refine wb_env [.sh (D.scr script1), .sh (.adr b), .sh (eI x5), .sh ((eD kZ (eP (eT eI) eI)) r6.1), .sh ((eRak C_Rack C_Ruler) rack_here9), .sh ((eT eI) sizes_here10), .own ((eL (eP3 eZ eB eI)) l16.1), .no, .no, .no, .no, .no, .no] rfl ?_
    -- 279
    refine wb_cons (ws_set 7 nd rfl (by walk_at "vis") ?_)
    refine we_lst ?_
    refine wa_nil ?_
    refine ⟨by decide, ?_⟩
    refine ⟨lt_ rfl, _, rfl, ?_⟩
    refine wb_let h (fun worst18 => [.sh (D.scr script1), .sh (.adr b), .sh (eI x5), .sh ((eD kZ (eP (eT eI) eI)) r6.1), .sh ((eRak C_Rack C_Ruler) rack_here9), .sh ((eT eI) sizes_here10), .own ((eL (eP3 eZ eB eI)) l16.1), .own ((eL eI) worst18), .no, .no, .no, .no, .no]) rfl fun worst18 h => ?_
    -- 280
    refine wb_forO (β := (Out.Rt (Bh) (Bool × Bh))) [8] (σT := List Int) (fun s19 => [.sh (D.scr script1), .sh (.adr b), .sh (eI x5), .sh ((eD kZ (eP (eT eI) eI)) r6.1), .sh ((eRak C_Rack C_Ruler) rack_here9), .sh ((eT eI) sizes_here10), .sh ((eL (eP3 eZ eB eI)) l16.1), .own ((eL eI) s19), .no, .no, .no, .no, .no]) (fun s19 => bxH G0 b g l16.2) (eP3 eZ eB eI) hp rfl ?_
    refine ti_lst (f := (eP3 eZ eB eI)) ?_
    refine we_var 6 rfl (by walk_at "vis") rfl ?_
    refine ⟨l16.1, _, rfl, fun hl22 => ?_⟩
    refine ⟨l16.1, worst18, _, _, _, _, rfl, (.eq (.eq (.eq (.eq (.eq (.eq (.eq (.eq (.no (.no (.no (.no (.no .nil))))))))))))), rfl, h, fun s19 x21 Q' h => ?_, fun s20 h => ?_⟩
    · skip
      refine wg_name 8 nd rfl (by walk_at "vis") (by decide) (lt_ rfl) ?_
      refine wb_env [.sh (D.scr script1), .sh (.adr b), .sh (eI x5), .sh ((eD kZ (eP (eT eI) eI)) r6.1), .sh ((eRak C_Rack C_Ruler) rack_here9), .sh ((eT eI) sizes_here10), .sh ((eL (eP3 eZ eB eI)) l16.1), .own ((eL eI) s19), .sh ((eP3 eZ eB eI) x21), .no, .no, .no, .no] rfl ?_
      -- 281
      refine wb_cons (ws_set 9 nd rfl (by walk_at "vis") ?_)
      refine we_cal tk c_law_parts hr rfl ?_
      refine wa_cons ?_
      refine we_var 3 rfl (by walk_at "vis") rfl ?_
      refine ⟨_, _, rfl, ?_⟩
      refine wa_cons ?_
      refine we_var 5 rfl (by walk_at "vis") rfl ?_
      refine ⟨_, _, rfl, ?_⟩
      refine wa_cons ?_
      refine we_var 8 rfl (by walk_at "vis") rfl ?_
      refine ⟨_, _, rfl, ?_⟩
      refine wa_nil ?_
      refine ⟨(r6.1, sizes_here10, x21), rfl, (Out.sb h).imp (fun r23 h => ?_) (fun _ he => he.elim)⟩
      refine ⟨lt_ rfl, _, rfl, ?_⟩
      refine wb_env [.sh (D.scr script1), .sh (.adr b), .sh (eI x5), .sh ((eD kZ (eP (eT eI) eI)) r6.1), .sh ((eRak C_Rack C_Ruler) rack_here9), .sh ((eT eI) sizes_here10), .sh ((eL (eP3 eZ eB eI)) l16.1), .own ((eL eI) s19), .sh ((eP3 eZ eB eI) x21), .own ((eKd w (eP eI eB) (eT eI)) r23), .no, .no, .no] rfl ?_
      -- 282
      refine wb_cons (ws_expr ?_)
      refine we_appendT (f := eI) ?_
      refine we_var 7 rfl (by walk_at "vis") rfl ?_
      refine ⟨_, s19, rfl, rfl, ?_⟩
      refine we_b1 (x := "max") (id := "max") rfl B.max bt_max ?_
      refine we_bin ?_
      refine we_lst ?_
      refine wa_cons ?_
      refine we_int ?_
      refine ⟨_, _, rfl, ?_⟩
      refine wa_nil ?_
      refine ⟨lt_ rfl, ?_⟩
      refine we_lcQ [("_law_one", 12)] rfl nd (blkOk_by (by rfl)) (lcS_preP (γ := (List Int)) [("_law_one", 12)] [.sh (D.scr script1), .sh (.adr b), .sh (eI x5), .sh ((eD kZ (eP (eT eI) eI)) r6.1), .sh ((eRak C_Rack C_Ruler) rack_here9), .sh ((eT eI) sizes_here10), .sh ((eL (eP3 eZ eB eI)) l16.1), .own ((eL eI) s19), .sh ((eP3 eZ eB eI) x21), .sh ((eKd w (eP eI eB) (eT eI)) r23), .no, .no, .no] (fun _ : Unit => bxH G0 b g l16.2) (en := (eP eI eB)) eI ?_)
      refine ti_keysK (ek := (eP eI eB)) (f := (eT eI)) ?_
      refine we_lockVK ?_
      refine we_var 9 rfl (by walk_at "vis") rfl ?_
      refine ⟨_, _, _, _, rfl, rfl, ?_⟩
      refine ⟨r23, _, rfl, fun hl26 => ?_⟩
      refine ⟨(r23.map (·.1)), (), _, _, _, _, rfl, hl26, Wk.refl _, rfl, h, fun s27 x25 Q' h => ?_, fun l28 h => ?_⟩
      · skip
        rintro Y ⟨s1, H1, C1, cl, fp, rfl⟩
        refine wg_name 12 nd rfl (by walk_at "vis") (by decide) (lt_ rfl) ?_
        rintro Y ⟨s1, H1, C1, cl, fp, rfl⟩
        refine we_b1 (x := "len") (id := "len") rfl B.len bt_len ?_
        refine we_kdget (ek := (eP eI eB)) (f := (eT eI)) (kyc_of (kye_pair kye_int kye_bool) (fun _ => ⟨_, rfl⟩)) hr.units (fun _ _ => rfl) ?_
        refine we_var 9 rfl (by walk_at "vis") rfl ?_
        refine we_var 12 rfl (by walk_at "vis") rfl ?_
        obtain ⟨x29, hx29, h⟩ := Out.gt h
        refine ⟨r23, x25, _, .inl rfl, .inl rfl, hx29, ?_⟩
        refine ⟨_, .inl rfl, ?_⟩
        refine t_lenT (f := eI) x29 ?_
        exact ⟨((x29).length : Int), (), _, rfl, Wk.refl _, rfl, h⟩
      obtain ⟨g30, h⟩ := Out.gd h
      refine ⟨_, _, .inl rfl, .inl rfl, ?_⟩
      refine t_cat (f := eI) [(0 : Int)] l28.1 g30 ?_
      refine ⟨_, .inl rfl, ?_⟩
      obtain ⟨x31, hx31, h⟩ := Out.gt h
      refine t_max rfl hx31 ?_
      obtain ⟨g32, h⟩ := Out.gd h
      refine ⟨x31, _, s19, rfl, rfl, g32, ?_⟩
      refine wb_let h (fun worst33 => [.sh (D.scr script1), .sh (.adr b), .sh (eI x5), .sh ((eD kZ (eP (eT eI) eI)) r6.1), .sh ((eRak C_Rack C_Ruler) rack_here9), .sh ((eT eI) sizes_here10), .sh ((eL (eP3 eZ eB eI)) l16.1), .own ((eL eI) worst33), .sh ((eP3 eZ eB eI) x21), .sh ((eKd w (eP eI eB) (eT eI)) r23), .no, .no, .no]) rfl fun worst33 h => ?_
      exact wb_nil ⟨worst33, (.eq (.eq (.eq (.eq (.eq (.eq (.eq (.eq (.no (.no (.no (.no (.no .nil))))))))))))), rfl, h⟩
    -- 283
    refine wb_cons (ws_set 10 nd rfl (by walk_at "vis") ?_)
    refine we_ifN (eO eI) ?_
    refine wt_w ?_
    refine ww_andB ?_
    refine wt_cmp (nomark _) ?_
    refine we_var 7 rfl (by walk_at "vis") rfl ?_
    refine we_lst ?_
    refine wa_nil ?_
    refine ⟨by decide, ?_⟩
    refine ⟨_, _, .inl rfl, .inl rfl, ?_⟩
    refine opw_neC (eqc_lst eqc_int) hr.units s20 ([] : List Int) ?_
    refine ⟨_, rfl, ?_⟩
    refine ⟨(!decide (sizes_here10 = ([] : List Int))), fun _ => ?_, ?_⟩
    · skip
      refine ww_and1 ?_
      refine wt_cmp (nomark _) ?_
      refine we_var 5 rfl (by walk_at "vis") rfl ?_
      refine we_tup ?_
      refine wa_nil ?_
      refine ⟨by decide, ?_⟩
      refine ⟨_, _, .inl rfl, .inl rfl, ?_⟩
      refine opw_neC (eqc_tup eqc_int) hr.units sizes_here10 ([] : List Int) ?_
      refine ⟨_, rfl, ?_⟩
      exact ⟨rfl, rfl, rfl⟩
    refine ⟨_, _, _, _, _, _, h, fun _ Q' h => ?_, fun _ Q' h => ?_, fun i34 h => ?_⟩
    · skip
      refine we_index ?_
      refine we_var 7 rfl (by walk_at "vis") rfl ?_
      refine ⟨_, .inl rfl, ?_⟩
      refine we_b1 (x := "min") (id := "min") rfl B.min bt_min ?_
      refine we_var 7 rfl (by walk_at "vis") rfl ?_
      refine ⟨_, .inl rfl, ?_⟩
      obtain ⟨x35, hx35, h⟩ := Out.gt h
      refine t_min rfl hx35 ?_
      refine ⟨_, _, .inl rfl, .inl rfl, ?_⟩
      obtain ⟨x36, hx36, h⟩ := Out.gt h
      refine t_index hx36 ?_
      exact ⟨_, rfl, rfl, rfl, h⟩
    · skip
      refine we_non ?_
      exact ⟨_, rfl, rfl, rfl, h⟩
    refine ⟨lt_ rfl, _, rfl, ?_⟩
    refine wb_env [.sh (D.scr script1), .sh (.adr b), .sh (eI x5), .sh ((eD kZ (eP (eT eI) eI)) r6.1), .sh ((eRak C_Rack C_Ruler) rack_here9), .sh ((eT eI) sizes_here10), .sh ((eL (eP3 eZ eB eI)) l16.1), .own ((eL eI) s20), .no, .no, .sh ((eO eI) i34), .no, .no] rfl ?_
    -- 284
    refine wb_cons (ws_if ?_)
    refine wt_not ?_
    refine wt_val (fun _ => rfl) ?_
    refine we_cal tk c_law_alike_0 hr rfl ?_
    refine wa_cons ?_
    refine we_cal tk c_next_measuring hr rfl ?_
    refine wa_cons ?_
    refine we_var 4 rfl (by walk_at "vis") rfl ?_
    refine ⟨_, _, rfl, ?_⟩
    refine wa_cons ?_
    refine we_var 5 rfl (by walk_at "vis") rfl ?_
    refine ⟨_, _, rfl, ?_⟩
    refine wa_cons ?_
    refine we_var 6 rfl (by walk_at "vis") rfl ?_
    refine ⟨_, _, rfl, ?_⟩
    refine wa_nil ?_
    refine ⟨(rack_here9, sizes_here10, l16.1), rfl, (Out.sb h).imp (fun r37 h => ?_) (fun _ he => he.elim)⟩
    refine ⟨_, _, rfl, ?_⟩
    refine wa_cons ?_
    refine we_var 10 rfl (by walk_at "vis") rfl ?_
    refine ⟨_, _, rfl, ?_⟩
    refine wa_nil ?_
    obtain ⟨g38, h⟩ := Out.gd h
    refine ⟨(eO eI) r37, congrArg (fun z => [(eO eI) r37, z]) (congrArg (eO eI) g38.1).symm, g38.2, ?_⟩
    refine ⟨_, rfl, ?_⟩
    refine ⟨fun hc => ?_, fun hc => ?_⟩
    · skip
      have h := (Out.iteb h).1 hc
      -- 285
      refine wb_cons (ws_ret ?_)
      refine we_bl ?_
      refine ⟨_, rfl, ?_⟩
      exact ⟨(false, l16.2), rfl, rfl, h⟩
    have h := (Out.iteb h).2 hc
    refine wb_nil ?_
    -- 286
    refine wb_cons (ws_set 10 nd rfl (by walk_at "vis") ?_)
    refine we_cal tk c_law_least hr rfl ?_
    refine wa_cons ?_
    refine we_var 3 rfl (by walk_at "vis") rfl ?_
    refine ⟨_, _, rfl, ?_⟩
    refine wa_cons ?_
    refine we_var 5 rfl (by walk_at "vis") rfl ?_
    refine ⟨_, _, rfl, ?_⟩
    refine wa_cons ?_
    refine we_var 6 rfl (by walk_at "vis") rfl ?_
    refine ⟨_, _, rfl, ?_⟩
    refine wa_nil ?_
    refine ⟨(r6.1, sizes_here10, l16.1), rfl, (Out.sb h).imp (fun r39 h => ?_) (fun _ he => he.elim)⟩
    refine ⟨lt_ rfl, _, rfl, ?_⟩
    refine wb_env [.sh (D.scr script1), .sh (.adr b), .sh (eI x5), .sh ((eD kZ (eP (eT eI) eI)) r6.1), .sh ((eRak C_Rack C_Ruler) rack_here9), .sh ((eT eI) sizes_here10), .sh ((eL (eP3 eZ eB eI)) l16.1), .own ((eL eI) s20), .no, .no, .sh (eI r39), .no, .no] rfl ?_
    -- 287
    refine wb_cons (ws_if ?_)
    refine wt_not ?_
    refine wt_val (fun _ => rfl) ?_
    refine we_cal tk c_law_alike_0 hr rfl ?_
    refine wa_cons ?_
    refine we_cal tk c_fewest_measurings hr rfl ?_
    refine wa_cons ?_
    refine we_var 4 rfl (by walk_at "vis") rfl ?_
    refine ⟨_, _, rfl, ?_⟩
    refine wa_cons ?_
    refine we_var 5 rfl (by walk_at "vis") rfl ?_
    refine ⟨_, _, rfl, ?_⟩
    refine wa_cons ?_
    refine we_var 6 rfl (by walk_at "vis") rfl ?_
    refine ⟨_, _, rfl, ?_⟩
    refine wa_nil ?_
    refine ⟨(rack_here9, sizes_here10, l16.1), rfl, (Out.sb h).imp (fun r40 h => ?_) (fun _ he => he.elim)⟩
    refine ⟨_, _, rfl, ?_⟩
    refine wa_cons ?_
    refine we_ifP (en := (eO eI)) (va := some r39) (vb := none) ?_
    refine wt_cmp (nomark _) ?_
    refine we_var 10 rfl (by walk_at "vis") rfl ?_
    refine we_int ?_
    refine ⟨_, _, .inl rfl, .inl rfl, ?_⟩
    refine opw_lt ?_
    refine ⟨_, rfl, ?_⟩
    refine ⟨fun _ => ?_, fun _ => ?_, ?_⟩
    · skip
      refine we_var 10 rfl (by walk_at "vis") rfl ?_
      exact ⟨rfl, rfl, rfl⟩
    · skip
      refine we_non ?_
      exact ⟨rfl, rfl, rfl⟩
    refine ⟨_, _, rfl, ?_⟩
    refine wa_nil ?_
    obtain ⟨g41, h⟩ := Out.gd h
    refine ⟨(eO eI) r40, congrArg (fun z => [(eO eI) r40, z]) (congrArg (eO eI) g41.1).symm, g41.2, ?_⟩
    refine ⟨_, rfl, ?_⟩
    refine ⟨fun hc => ?_, fun hc => ?_⟩
    · skip
      have h := (Out.iteb h).1 hc
      -- 288
      refine wb_cons (ws_ret ?_)
      refine we_bl ?_
      refine ⟨_, rfl, ?_⟩
      exact ⟨(false, l16.2), rfl, rfl, h⟩
    have h := (Out.iteb h).2 hc
    refine wb_nil ?_
    exact wb_nil ⟨l16.2, (.eq (.eq (.no (.no (.no (.no (.no (.no (.no (.no (.no (.no (.no .nil))))))))))))), rfl, h⟩
  -- 289
  refine wb_cons (ws_ret ?_)
  refine we_bl ?_
  refine ⟨_, rfl, ?_⟩
  exact h _
theorem law_sp {K : PySem.W.Frag} {H : Hp} {a : Addr} {ns : List Int} (hl : ns.length ≤ 63) (hS : SqL K H a (ns.map V.int)) : spD K (FLaw m_law) [.ref a] H (fun v _ => v = .bl true) fun _ _ _ => False :=
  ⟨H, fun _ => none, [.scr ns], fun x _ => x = .sh (.bl true), fun _ _ => False, Ex.refl _, (fun _ _ h => nomatch h), (fun _ _ h => nomatch h), ⟨_, _, rfl, ⟨a, rfl, hS⟩, rfl⟩, ⟨ns, rfl, by rw [law_true ns hl]; exact fun _ => rfl⟩, (fun x G' v H' F' hp B rt => by subst hp; exact rt), fun _ _ _ _ _ _ z => z.elim⟩
theorem all_mk {l : PySem.W.OpenLaw} {w : World} {K : PySem.W.Frag} {h : Heap} {mg : Str → Option Value} {fa : Addr} (cx : Nat → Addr) (X : K.In h) (G : h.Ns mainGlobals mg) (hfa : mg "law" = some (.ref fa))
    {t_LETTERS : Tok} {t_MAX_LETTERS : Tok} {t_MAX_RULERS : Tok} {t_MAX_ERROR : Tok} {t_MAX_LENGTH : Tok} {t_MAX_MARKS : Tok} {t_MIN_MARKS : Tok} {t_MAX_OFFSET : Tok} {t_MAX_MEASURINGS : Tok} {t_MAX_THINGS : Tok} {C_Ruler : Addr} {q_Ruler_own_error : Addr} {q_Ruler_own_marks : Addr} {C_Rack : Addr} {q_Rack_held : Addr} {C_Settler : Addr} {f_law_alike : Addr} {oc1 kV1 dc1 pm1 cd1 ct1 : Value} {od1 an1 : Option Addr} {sl1 : Array (Option Value)} {f_law_mix : Addr} {oc2 kV2 dc2 pm2 cd2 ct2 : Value} {od2 an2 : Option Addr} {sl2 : Array (Option Value)} {f_law_next : Addr} {oc3 kV3 dc3 pm3 cd3 ct3 : Value} {od3 an3 : Option Addr} {sl3 : Array (Option Value)} {f_law_marks : Addr} {oc4 kV4 dc4 pm4 cd4 ct4 : Value} {od4 an4 : Option Addr} {sl4 : Array (Option Value)} {f_law_drawn : Addr} {oc5 kV5 dc5 pm5 cd5 ct5 : Value} {od5 an5 : Option Addr} {sl5 : Array (Option Value)} {f_law_read : Addr} {oc6 kV6 dc6 pm6 cd6 ct6 : Value} {od6 an6 : Option Addr} {sl6 : Array (Option Value)} {f_law_results : Addr} {oc7 kV7 dc7 pm7 cd7 ct7 : Value} {od7 an7 : Option Addr} {sl7 : Array (Option Value)} {f_law_parts : Addr} {oc8 kV8 dc8 pm8 cd8 ct8 : Value} {od8 an8 : Option Addr} {sl8 : Array (Option Value)} {f_law_least : Addr} {oc9 kV9 dc9 pm9 cd9 ct9 : Value} {od9 an9 : Option Addr} {sl9 : Array (Option Value)} {f_law_measuring : Addr} {oc10 kV10 dc10 pm10 cd10 ct10 : Value} {od10 an10 : Option Addr} {sl10 : Array (Option Value)} {f_is_name : Addr} {oc11 kV11 dc11 pm11 cd11 ct11 : Value} {od11 an11 : Option Addr} {sl11 : Array (Option Value)} {f_Rack_init : Addr} {oc12 kV12 dc12 pm12 cd12 ct12 : Value} {od12 an12 : Option Addr} {sl12 : Array (Option Value)} {f_is_number : Addr} {oc13 kV13 dc13 pm13 cd13 ct13 : Value} {od13 an13 : Option Addr} {sl13 : Array (Option Value)} {f_Ruler_init : Addr} {oc14 kV14 dc14 pm14 cd14 ct14 : Value} {od14 an14 : Option Addr} {sl14 : Array (Option Value)} {f_law_rack : Addr} {oc15 kV15 dc15 pm15 cd15 ct15 : Value} {od15 an15 : Option Addr} {sl15 : Array (Option Value)} {f_law_sizes : Addr} {oc16 kV16 dc16 pm16 cd16 ct16 : Value} {od16 an16 : Option Addr} {sl16 : Array (Option Value)} {f_validate_lengths_of_things : Addr} {oc17 kV17 dc17 pm17 cd17 ct17 : Value} {od17 an17 : Option Addr} {sl17 : Array (Option Value)} {f_Rack_contains : Addr} {oc18 kV18 dc18 pm18 cd18 ct18 : Value} {od18 an18 : Option Addr} {sl18 : Array (Option Value)} {f_validate_measurings : Addr} {oc19 kV19 dc19 pm19 cd19 ct19 : Value} {od19 an19 : Option Addr} {sl19 : Array (Option Value)} {f_mirrored : Addr} {oc20 kV20 dc20 pm20 cd20 ct20 : Value} {od20 an20 : Option Addr} {sl20 : Array (Option Value)} {f_read_at : Addr} {oc21 kV21 dc21 pm21 cd21 ct21 : Value} {od21 an21 : Option Addr} {sl21 : Array (Option Value)} {f_Ruler_error : Addr} {p_Ruler_error : Addr} {r_Ruler_error : List Value} {oc22 kV22 dc22 pm22 cd22 ct22 : Value} {od22 an22 : Option Addr} {sl22 : Array (Option Value)} {f_Ruler_marks : Addr} {p_Ruler_marks : Addr} {r_Ruler_marks : List Value} {oc23 kV23 dc23 pm23 cd23 ct23 : Value} {od23 an23 : Option Addr} {sl23 : Array (Option Value)} {f_Rack_getitem : Addr} {oc24 kV24 dc24 pm24 cd24 ct24 : Value} {od24 an24 : Option Addr} {sl24 : Array (Option Value)} {f_all_results : Addr} {oc25 kV25 dc25 pm25 cd25 ct25 : Value} {od25 an25 : Option Addr} {sl25 : Array (Option Value)} {f_parted : Addr} {oc26 kV26 dc26 pm26 cd26 ct26 : Value} {od26 an26 : Option Addr} {sl26 : Array (Option Value)} {f_Settler_is_settled : Addr} {oc27 kV27 dc27 pm27 cd27 ct27 : Value} {od27 an27 : Option Addr} {sl27 : Array (Option Value)} {f_Settler_has_good : Addr} {oc28 kV28 dc28 pm28 cd28 ct28 : Value} {od28 an28 : Option Addr} {sl28 : Array (Option Value)} {f_Settler_init : Addr} {oc29 kV29 dc29 pm29 cd29 ct29 : Value} {od29 an29 : Option Addr} {sl29 : Array (Option Value)} {f_fewest_measurings : Addr} {oc30 kV30 dc30 pm30 cd30 ct30 : Value} {od30 an30 : Option Addr} {sl30 : Array (Option Value)} {f_next_measuring : Addr} {oc31 kV31 dc31 pm31 cd31 ct31 : Value} {od31 an31 : Option Addr} {sl31 : Array (Option Value)} {f_law : Addr} {oc32 kV32 dc32 pm32 cd32 ct32 : Value} {od32 an32 : Option Addr} {sl32 : Array (Option Value)}
    (z_int : PySem.W.nsIn K mainGlobals "int" = some none)
    (z_len : PySem.W.nsIn K mainGlobals "len" = some none)
    (z_list : PySem.W.nsIn K mainGlobals "list" = some none)
    (z_range : PySem.W.nsIn K mainGlobals "range" = some none)
    (z_sorted : PySem.W.nsIn K mainGlobals "sorted" = some none)
    (z_tuple : PySem.W.nsIn K mainGlobals "tuple" = some none)
    (z_dict : PySem.W.nsIn K mainGlobals "dict" = some none)
    (z_isinstance : PySem.W.nsIn K mainGlobals "isinstance" = some none)
    (z_bool : PySem.W.nsIn K mainGlobals "bool" = some none)
    (z_str : PySem.W.nsIn K mainGlobals "str" = some none)
    (z_enumerate : PySem.W.nsIn K mainGlobals "enumerate" = some none)
    (z_reversed : PySem.W.nsIn K mainGlobals "reversed" = some none)
    (z_abs : PySem.W.nsIn K mainGlobals "abs" = some none)
    (z_min : PySem.W.nsIn K mainGlobals "min" = some none)
    (z_max : PySem.W.nsIn K mainGlobals "max" = some none)
    (z_sum : PySem.W.nsIn K mainGlobals "sum" = some none)
    (z_zip : PySem.W.nsIn K mainGlobals "zip" = some none)
    (z_set : PySem.W.nsIn K mainGlobals "set" = some none)
    (z_all : PySem.W.nsIn K mainGlobals "all" = some none)
    (z_divmod : PySem.W.nsIn K mainGlobals "divmod" = some none)
    (g_LETTERS : PySem.W.nsIn K mainGlobals "LETTERS" = some (some (.str "abcdefghijklmnopqrstuvwxyz" t_LETTERS)))
    (g_MAX_LETTERS : PySem.W.nsIn K mainGlobals "MAX_LETTERS" = some (some (.int 8 t_MAX_LETTERS)))
    (g_MAX_RULERS : PySem.W.nsIn K mainGlobals "MAX_RULERS" = some (some (.int 6 t_MAX_RULERS)))
    (g_MAX_ERROR : PySem.W.nsIn K mainGlobals "MAX_ERROR" = some (some (.int 9 t_MAX_ERROR)))
    (g_MAX_LENGTH : PySem.W.nsIn K mainGlobals "MAX_LENGTH" = some (some (.int 300 t_MAX_LENGTH)))
    (g_MAX_MARKS : PySem.W.nsIn K mainGlobals "MAX_MARKS" = some (some (.int 12 t_MAX_MARKS)))
    (g_MIN_MARKS : PySem.W.nsIn K mainGlobals "MIN_MARKS" = some (some (.int 2 t_MIN_MARKS)))
    (g_MAX_OFFSET : PySem.W.nsIn K mainGlobals "MAX_OFFSET" = some (some (.int 200 t_MAX_OFFSET)))
    (g_MAX_MEASURINGS : PySem.W.nsIn K mainGlobals "MAX_MEASURINGS" = some (some (.int 5 t_MAX_MEASURINGS)))
    (g_MAX_THINGS : PySem.W.nsIn K mainGlobals "MAX_THINGS" = some (some (.int 60 t_MAX_THINGS)))
    (g_Ruler : PySem.W.nsIn K mainGlobals "Ruler" = some (some (.ref C_Ruler)))
    (pg_Ruler : PySem.W.plainGet K C_Ruler Str.empty = true)
    (ic_Ruler : PySem.W.isClsIn K C_Ruler = true)
    (po_Ruler : PySem.W.plainOver K C_Ruler = true)
    (sa_Ruler : PySem.W.findIn K (.ref C_Ruler) "__setattr__" = some (some (.builtin "object.__setattr__")))
    (ca_Ruler : PySem.W.findIn K (.ref C_Ruler) "__class__" = some (some (.builtin "object.__class__")))
    (cn_Ruler : PySem.W.specialIn K (.builtin "object.__class__") "__get__" = some (some (.builtin "getset_descriptor.__get__")))
    (ct_Ruler : PySem.W.takesIn K (.builtin "object.__class__") = some true)
    (cm_Ruler : PySem.W.mroIn K C_Ruler (.type "object") = some true)
    (sa_Ruler_own_error : PySem.W.findIn K (.ref C_Ruler) "own_error" = some (some (.ref q_Ruler_own_error)))
    (sg_Ruler_own_error : PySem.W.specialIn K (.ref q_Ruler_own_error) "__get__" = some (some (.builtin "member_descriptor.__get__")))
    (sk_Ruler_own_error : PySem.W.takesIn K (.ref q_Ruler_own_error) = some true)
    (sy_Ruler_own_error : PySem.W.typeIn K (.ref q_Ruler_own_error) = some (.type "member_descriptor"))
    (sx_Ruler_own_error : PySem.W.slotIn K q_Ruler_own_error C_Ruler = some 0)
    (sa_Ruler_own_marks : PySem.W.findIn K (.ref C_Ruler) "own_marks" = some (some (.ref q_Ruler_own_marks)))
    (sg_Ruler_own_marks : PySem.W.specialIn K (.ref q_Ruler_own_marks) "__get__" = some (some (.builtin "member_descriptor.__get__")))
    (sk_Ruler_own_marks : PySem.W.takesIn K (.ref q_Ruler_own_marks) = some true)
    (sy_Ruler_own_marks : PySem.W.typeIn K (.ref q_Ruler_own_marks) = some (.type "member_descriptor"))
    (sx_Ruler_own_marks : PySem.W.slotIn K q_Ruler_own_marks C_Ruler = some 1)
    (nf_Ruler : PySem.W.notFirst K C_Ruler (.ref C_Ruler) = true)
    (g_Rack : PySem.W.nsIn K mainGlobals "Rack" = some (some (.ref C_Rack)))
    (pg_Rack : PySem.W.plainGet K C_Rack Str.empty = true)
    (ic_Rack : PySem.W.isClsIn K C_Rack = true)
    (po_Rack : PySem.W.plainOver K C_Rack = true)
    (sa_Rack : PySem.W.findIn K (.ref C_Rack) "__setattr__" = some (some (.builtin "object.__setattr__")))
    (ca_Rack : PySem.W.findIn K (.ref C_Rack) "__class__" = some (some (.builtin "object.__class__")))
    (cn_Rack : PySem.W.specialIn K (.builtin "object.__class__") "__get__" = some (some (.builtin "getset_descriptor.__get__")))
    (ct_Rack : PySem.W.takesIn K (.builtin "object.__class__") = some true)
    (cm_Rack : PySem.W.mroIn K C_Rack (.type "object") = some true)
    (sa_Rack_held : PySem.W.findIn K (.ref C_Rack) "held" = some (some (.ref q_Rack_held)))
    (sg_Rack_held : PySem.W.specialIn K (.ref q_Rack_held) "__get__" = some (some (.builtin "member_descriptor.__get__")))
    (sk_Rack_held : PySem.W.takesIn K (.ref q_Rack_held) = some true)
    (sy_Rack_held : PySem.W.typeIn K (.ref q_Rack_held) = some (.type "member_descriptor"))
    (sx_Rack_held : PySem.W.slotIn K q_Rack_held C_Rack = some 0)
    (nf_Rack : PySem.W.notFirst K C_Rack (.ref C_Rack) = true)
    (g_Settler : PySem.W.nsIn K mainGlobals "Settler" = some (some (.ref C_Settler)))
    (pg_Settler : PySem.W.plainGet K C_Settler Str.empty = true)
    (hd_Settler : PySem.W.hasDictIn K C_Settler = true)
    (po_Settler : PySem.W.plainOver K C_Settler = true)
    (sa_Settler : PySem.W.findIn K (.ref C_Settler) "__setattr__" = some (some (.builtin "object.__setattr__")))
    (na_Settler_rack_used : PySem.W.findIn K (.ref C_Settler) "rack_used" = some none)
    (na_Settler_known : PySem.W.findIn K (.ref C_Settler) "known" = some none)
    (a_law_alike : PySem.W.nsIn K mainGlobals "_law_alike" = some (some (.ref f_law_alike)))
    (l_law_alike : K.lookup f_law_alike = some ⟨oc1, od1, .func (PySem.W.fnOf "_law_alike" "_law_alike" (defArgs s_law_alike) (defBody s_law_alike) (defScope s_law_alike) .none kV1 dc1 pm1 an1 cd1 ct1), sl1⟩)
    (c_law_alike : PySem.W.codeIn K cd1 "_law_alike" = true)
    (kp_law_alike : PySem.W.keepIn K (.ref f_law_alike) = true)
    (a_law_mix : PySem.W.nsIn K mainGlobals "_law_mix" = some (some (.ref f_law_mix)))
    (l_law_mix : K.lookup f_law_mix = some ⟨oc2, od2, .func (PySem.W.fnOf "_law_mix" "_law_mix" (defArgs s_law_mix) (defBody s_law_mix) (defScope s_law_mix) .none kV2 dc2 pm2 an2 cd2 ct2), sl2⟩)
    (c_law_mix : PySem.W.codeIn K cd2 "_law_mix" = true)
    (kp_law_mix : PySem.W.keepIn K (.ref f_law_mix) = true)
    (a_law_next : PySem.W.nsIn K mainGlobals "_law_next" = some (some (.ref f_law_next)))
    (l_law_next : K.lookup f_law_next = some ⟨oc3, od3, .func (PySem.W.fnOf "_law_next" "_law_next" (defArgs s_law_next) (defBody s_law_next) (defScope s_law_next) .none kV3 dc3 pm3 an3 cd3 ct3), sl3⟩)
    (c_law_next : PySem.W.codeIn K cd3 "_law_next" = true)
    (kp_law_next : PySem.W.keepIn K (.ref f_law_next) = true)
    (a_law_marks : PySem.W.nsIn K mainGlobals "_law_marks" = some (some (.ref f_law_marks)))
    (l_law_marks : K.lookup f_law_marks = some ⟨oc4, od4, .func (PySem.W.fnOf "_law_marks" "_law_marks" (defArgs s_law_marks) (defBody s_law_marks) (defScope s_law_marks) .none kV4 dc4 pm4 an4 cd4 ct4), sl4⟩)
    (c_law_marks : PySem.W.codeIn K cd4 "_law_marks" = true)
    (kp_law_marks : PySem.W.keepIn K (.ref f_law_marks) = true)
    (a_law_drawn : PySem.W.nsIn K mainGlobals "_law_drawn" = some (some (.ref f_law_drawn)))
    (l_law_drawn : K.lookup f_law_drawn = some ⟨oc5, od5, .func (PySem.W.fnOf "_law_drawn" "_law_drawn" (defArgs s_law_drawn) (defBody s_law_drawn) (defScope s_law_drawn) .none kV5 dc5 pm5 an5 cd5 ct5), sl5⟩)
    (c_law_drawn : PySem.W.codeIn K cd5 "_law_drawn" = true)
    (kp_law_drawn : PySem.W.keepIn K (.ref f_law_drawn) = true)
    (a_law_read : PySem.W.nsIn K mainGlobals "_law_read" = some (some (.ref f_law_read)))
    (l_law_read : K.lookup f_law_read = some ⟨oc6, od6, .func (PySem.W.fnOf "_law_read" "_law_read" (defArgs s_law_read) (defBody s_law_read) (defScope s_law_read) .none kV6 dc6 pm6 an6 cd6 ct6), sl6⟩)
    (c_law_read : PySem.W.codeIn K cd6 "_law_read" = true)
    (kp_law_read : PySem.W.keepIn K (.ref f_law_read) = true)
    (a_law_results : PySem.W.nsIn K mainGlobals "_law_results" = some (some (.ref f_law_results)))
    (l_law_results : K.lookup f_law_results = some ⟨oc7, od7, .func (PySem.W.fnOf "_law_results" "_law_results" (defArgs s_law_results) (defBody s_law_results) (defScope s_law_results) .none kV7 dc7 pm7 an7 cd7 ct7), sl7⟩)
    (c_law_results : PySem.W.codeIn K cd7 "_law_results" = true)
    (kp_law_results : PySem.W.keepIn K (.ref f_law_results) = true)
    (a_law_parts : PySem.W.nsIn K mainGlobals "_law_parts" = some (some (.ref f_law_parts)))
    (l_law_parts : K.lookup f_law_parts = some ⟨oc8, od8, .func (PySem.W.fnOf "_law_parts" "_law_parts" (defArgs s_law_parts) (defBody s_law_parts) (defScope s_law_parts) .none kV8 dc8 pm8 an8 cd8 ct8), sl8⟩)
    (c_law_parts : PySem.W.codeIn K cd8 "_law_parts" = true)
    (kp_law_parts : PySem.W.keepIn K (.ref f_law_parts) = true)
    (a_law_least : PySem.W.nsIn K mainGlobals "_law_least" = some (some (.ref f_law_least)))
    (l_law_least : K.lookup f_law_least = some ⟨oc9, od9, .func (PySem.W.fnOf "_law_least" "_law_least" (defArgs s_law_least) (defBody s_law_least) (defScope s_law_least) .none kV9 dc9 pm9 an9 cd9 ct9), sl9⟩)
    (c_law_least : PySem.W.codeIn K cd9 "_law_least" = true)
    (kp_law_least : PySem.W.keepIn K (.ref f_law_least) = true)
    (a_law_measuring : PySem.W.nsIn K mainGlobals "_law_measuring" = some (some (.ref f_law_measuring)))
    (l_law_measuring : K.lookup f_law_measuring = some ⟨oc10, od10, .func (PySem.W.fnOf "_law_measuring" "_law_measuring" (defArgs s_law_measuring) (defBody s_law_measuring) (defScope s_law_measuring) .none kV10 dc10 pm10 an10 cd10 ct10), sl10⟩)
    (c_law_measuring : PySem.W.codeIn K cd10 "_law_measuring" = true)
    (kp_law_measuring : PySem.W.keepIn K (.ref f_law_measuring) = true)
    (a_is_name : PySem.W.nsIn K mainGlobals "is_name" = some (some (.ref f_is_name)))
    (l_is_name : K.lookup f_is_name = some ⟨oc11, od11, .func (PySem.W.fnOf "is_name" "is_name" (defArgs s_is_name) (defBody s_is_name) (defScope s_is_name) .none kV11 dc11 pm11 an11 cd11 ct11), sl11⟩)
    (c_is_name : PySem.W.codeIn K cd11 "is_name" = true)
    (kp_is_name : PySem.W.keepIn K (.ref f_is_name) = true)
    (at_Rack_init : PySem.W.findIn K (.ref C_Rack) "__init__" = some (some (.ref f_Rack_init)))
    (fn_Rack_init : PySem.W.isFn K (.ref f_Rack_init) = true)
    (l_Rack_init : K.lookup f_Rack_init = some ⟨oc12, od12, .func (PySem.W.fnOf "__init__" "Rack.__init__" (defArgs s_Rack_init) (defBody s_Rack_init) (defScope s_Rack_init) .none kV12 dc12 pm12 an12 cd12 ct12), sl12⟩)
    (c_Rack_init : PySem.W.codeIn K cd12 "Rack.__init__" = true)
    (kp_Rack_init : PySem.W.keepIn K (.ref f_Rack_init) = true)
    (mki_Rack : PySem.W.makesIn K C_Rack = true)
    (kc_Rack : PySem.W.keepIn K (.ref C_Rack) = true)
    (a_is_number : PySem.W.nsIn K mainGlobals "is_number" = some (some (.ref f_is_number)))
    (l_is_number : K.lookup f_is_number = some ⟨oc13, od13, .func (PySem.W.fnOf "is_number" "is_number" (defArgs s_is_number) (defBody s_is_number) (defScope s_is_number) .none kV13 dc13 pm13 an13 cd13 ct13), sl13⟩)
    (c_is_number : PySem.W.codeIn K cd13 "is_number" = true)
    (kp_is_number : PySem.W.keepIn K (.ref f_is_number) = true)
    (at_Ruler_init : PySem.W.findIn K (.ref C_Ruler) "__init__" = some (some (.ref f_Ruler_init)))
    (fn_Ruler_init : PySem.W.isFn K (.ref f_Ruler_init) = true)
    (l_Ruler_init : K.lookup f_Ruler_init = some ⟨oc14, od14, .func (PySem.W.fnOf "__init__" "Ruler.__init__" (defArgs s_Ruler_init) (defBody s_Ruler_init) (defScope s_Ruler_init) .none kV14 dc14 pm14 an14 cd14 ct14), sl14⟩)
    (c_Ruler_init : PySem.W.codeIn K cd14 "Ruler.__init__" = true)
    (kp_Ruler_init : PySem.W.keepIn K (.ref f_Ruler_init) = true)
    (mki_Ruler : PySem.W.makesIn K C_Ruler = true)
    (kc_Ruler : PySem.W.keepIn K (.ref C_Ruler) = true)
    (a_law_rack : PySem.W.nsIn K mainGlobals "_law_rack" = some (some (.ref f_law_rack)))
    (l_law_rack : K.lookup f_law_rack = some ⟨oc15, od15, .func (PySem.W.fnOf "_law_rack" "_law_rack" (defArgs s_law_rack) (defBody s_law_rack) (defScope s_law_rack) .none kV15 dc15 pm15 an15 cd15 ct15), sl15⟩)
    (c_law_rack : PySem.W.codeIn K cd15 "_law_rack" = true)
    (kp_law_rack : PySem.W.keepIn K (.ref f_law_rack) = true)
    (a_law_sizes : PySem.W.nsIn K mainGlobals "_law_sizes" = some (some (.ref f_law_sizes)))
    (l_law_sizes : K.lookup f_law_sizes = some ⟨oc16, od16, .func (PySem.W.fnOf "_law_sizes" "_law_sizes" (defArgs s_law_sizes) (defBody s_law_sizes) (defScope s_law_sizes) .none kV16 dc16 pm16 an16 cd16 ct16), sl16⟩)
    (c_law_sizes : PySem.W.codeIn K cd16 "_law_sizes" = true)
    (kp_law_sizes : PySem.W.keepIn K (.ref f_law_sizes) = true)
    (a_validate_lengths_of_things : PySem.W.nsIn K mainGlobals "validate_lengths_of_things" = some (some (.ref f_validate_lengths_of_things)))
    (l_validate_lengths_of_things : K.lookup f_validate_lengths_of_things = some ⟨oc17, od17, .func (PySem.W.fnOf "validate_lengths_of_things" "validate_lengths_of_things" (defArgs s_validate_lengths_of_things) (defBody s_validate_lengths_of_things) (defScope s_validate_lengths_of_things) .none kV17 dc17 pm17 an17 cd17 ct17), sl17⟩)
    (c_validate_lengths_of_things : PySem.W.codeIn K cd17 "validate_lengths_of_things" = true)
    (kp_validate_lengths_of_things : PySem.W.keepIn K (.ref f_validate_lengths_of_things) = true)
    (at_Rack_contains : PySem.W.findIn K (.ref C_Rack) "__contains__" = some (some (.ref f_Rack_contains)))
    (fn_Rack_contains : PySem.W.isFn K (.ref f_Rack_contains) = true)
    (l_Rack_contains : K.lookup f_Rack_contains = some ⟨oc18, od18, .func (PySem.W.fnOf "__contains__" "Rack.__contains__" (defArgs s_Rack_contains) (defBody s_Rack_contains) (defScope s_Rack_contains) .none kV18 dc18 pm18 an18 cd18 ct18), sl18⟩)
    (c_Rack_contains : PySem.W.codeIn K cd18 "Rack.__contains__" = true)
    (kp_Rack_contains : PySem.W.keepIn K (.ref f_Rack_contains) = true)
    (a_validate_measurings : PySem.W.nsIn K mainGlobals "validate_measurings" = some (some (.ref f_validate_measurings)))
    (l_validate_measurings : K.lookup f_validate_measurings = some ⟨oc19, od19, .func (PySem.W.fnOf "validate_measurings" "validate_measurings" (defArgs s_validate_measurings) (defBody s_validate_measurings) (defScope s_validate_measurings) .none kV19 dc19 pm19 an19 cd19 ct19), sl19⟩)
    (c_validate_measurings : PySem.W.codeIn K cd19 "validate_measurings" = true)
    (kp_validate_measurings : PySem.W.keepIn K (.ref f_validate_measurings) = true)
    (a_mirrored : PySem.W.nsIn K mainGlobals "mirrored" = some (some (.ref f_mirrored)))
    (l_mirrored : K.lookup f_mirrored = some ⟨oc20, od20, .func (PySem.W.fnOf "mirrored" "mirrored" (defArgs s_mirrored) (defBody s_mirrored) (defScope s_mirrored) .none kV20 dc20 pm20 an20 cd20 ct20), sl20⟩)
    (c_mirrored : PySem.W.codeIn K cd20 "mirrored" = true)
    (kp_mirrored : PySem.W.keepIn K (.ref f_mirrored) = true)
    (a_read_at : PySem.W.nsIn K mainGlobals "read_at" = some (some (.ref f_read_at)))
    (l_read_at : K.lookup f_read_at = some ⟨oc21, od21, .func (PySem.W.fnOf "read_at" "read_at" (defArgs s_read_at) (defBody s_read_at) (defScope s_read_at) .none kV21 dc21 pm21 an21 cd21 ct21), sl21⟩)
    (c_read_at : PySem.W.codeIn K cd21 "read_at" = true)
    (kp_read_at : PySem.W.keepIn K (.ref f_read_at) = true)
    (at_Ruler_error : PySem.W.findIn K (.ref C_Ruler) "error" = some (some (.ref p_Ruler_error)))
    (sp_Ruler_error : PySem.W.specialIn K (.ref p_Ruler_error) "__get__" = some (some (.builtin "property.__get__")))
    (tk_Ruler_error : PySem.W.takesIn K (.ref p_Ruler_error) = some true)
    (rc_Ruler_error : PySem.W.recIn K p_Ruler_error "property" = some (.ref f_Ruler_error :: r_Ruler_error))
    (l_Ruler_error : K.lookup f_Ruler_error = some ⟨oc22, od22, .func (PySem.W.fnOf "error" "Ruler.error" (defArgs s_Ruler_error) (defBody s_Ruler_error) (defScope s_Ruler_error) .none kV22 dc22 pm22 an22 cd22 ct22), sl22⟩)
    (c_Ruler_error : PySem.W.codeIn K cd22 "Ruler.error" = true)
    (kp_Ruler_error : PySem.W.keepIn K (.ref f_Ruler_error) = true)
    (at_Ruler_marks : PySem.W.findIn K (.ref C_Ruler) "marks" = some (some (.ref p_Ruler_marks)))
    (sp_Ruler_marks : PySem.W.specialIn K (.ref p_Ruler_marks) "__get__" = some (some (.builtin "property.__get__")))
    (tk_Ruler_marks : PySem.W.takesIn K (.ref p_Ruler_marks) = some true)
    (rc_Ruler_marks : PySem.W.recIn K p_Ruler_marks "property" = some (.ref f_Ruler_marks :: r_Ruler_marks))
    (l_Ruler_marks : K.lookup f_Ruler_marks = some ⟨oc23, od23, .func (PySem.W.fnOf "marks" "Ruler.marks" (defArgs s_Ruler_marks) (defBody s_Ruler_marks) (defScope s_Ruler_marks) .none kV23 dc23 pm23 an23 cd23 ct23), sl23⟩)
    (c_Ruler_marks : PySem.W.codeIn K cd23 "Ruler.marks" = true)
    (kp_Ruler_marks : PySem.W.keepIn K (.ref f_Ruler_marks) = true)
    (at_Rack_getitem : PySem.W.findIn K (.ref C_Rack) "__getitem__" = some (some (.ref f_Rack_getitem)))
    (fn_Rack_getitem : PySem.W.isFn K (.ref f_Rack_getitem) = true)
    (l_Rack_getitem : K.lookup f_Rack_getitem = some ⟨oc24, od24, .func (PySem.W.fnOf "__getitem__" "Rack.__getitem__" (defArgs s_Rack_getitem) (defBody s_Rack_getitem) (defScope s_Rack_getitem) .none kV24 dc24 pm24 an24 cd24 ct24), sl24⟩)
    (c_Rack_getitem : PySem.W.codeIn K cd24 "Rack.__getitem__" = true)
    (kp_Rack_getitem : PySem.W.keepIn K (.ref f_Rack_getitem) = true)
    (a_all_results : PySem.W.nsIn K mainGlobals "all_results" = some (some (.ref f_all_results)))
    (l_all_results : K.lookup f_all_results = some ⟨oc25, od25, .func (PySem.W.fnOf "all_results" "all_results" (defArgs s_all_results) (defBody s_all_results) (defScope s_all_results) .none kV25 dc25 pm25 an25 cd25 ct25), sl25⟩)
    (c_all_results : PySem.W.codeIn K cd25 "all_results" = true)
    (kp_all_results : PySem.W.keepIn K (.ref f_all_results) = true)
    (a_parted : PySem.W.nsIn K mainGlobals "parted" = some (some (.ref f_parted)))
    (l_parted : K.lookup f_parted = some ⟨oc26, od26, .func (PySem.W.fnOf "parted" "parted" (defArgs s_parted) (defBody s_parted) (defScope s_parted) .none kV26 dc26 pm26 an26 cd26 ct26), sl26⟩)
    (c_parted : PySem.W.codeIn K cd26 "parted" = true)
    (kp_parted : PySem.W.keepIn K (.ref f_parted) = true)
    (at_Settler_is_settled : PySem.W.findIn K (.ref C_Settler) "is_settled" = some (some (.ref f_Settler_is_settled)))
    (fn_Settler_is_settled : PySem.W.isFn K (.ref f_Settler_is_settled) = true)
    (l_Settler_is_settled : K.lookup f_Settler_is_settled = some ⟨oc27, od27, .func (PySem.W.fnOf "is_settled" "Settler.is_settled" (defArgs s_Settler_is_settled) (defBody s_Settler_is_settled) (defScope s_Settler_is_settled) .none kV27 dc27 pm27 an27 cd27 ct27), sl27⟩)
    (c_Settler_is_settled : PySem.W.codeIn K cd27 "Settler.is_settled" = true)
    (kp_Settler_is_settled : PySem.W.keepIn K (.ref f_Settler_is_settled) = true)
    (at_Settler_has_good : PySem.W.findIn K (.ref C_Settler) "has_good" = some (some (.ref f_Settler_has_good)))
    (fn_Settler_has_good : PySem.W.isFn K (.ref f_Settler_has_good) = true)
    (l_Settler_has_good : K.lookup f_Settler_has_good = some ⟨oc28, od28, .func (PySem.W.fnOf "has_good" "Settler.has_good" (defArgs s_Settler_has_good) (defBody s_Settler_has_good) (defScope s_Settler_has_good) .none kV28 dc28 pm28 an28 cd28 ct28), sl28⟩)
    (c_Settler_has_good : PySem.W.codeIn K cd28 "Settler.has_good" = true)
    (kp_Settler_has_good : PySem.W.keepIn K (.ref f_Settler_has_good) = true)
    (at_Settler_init : PySem.W.findIn K (.ref C_Settler) "__init__" = some (some (.ref f_Settler_init)))
    (fn_Settler_init : PySem.W.isFn K (.ref f_Settler_init) = true)
    (l_Settler_init : K.lookup f_Settler_init = some ⟨oc29, od29, .func (PySem.W.fnOf "__init__" "Settler.__init__" (defArgs s_Settler_init) (defBody s_Settler_init) (defScope s_Settler_init) .none kV29 dc29 pm29 an29 cd29 ct29), sl29⟩)
    (c_Settler_init : PySem.W.codeIn K cd29 "Settler.__init__" = true)
    (kp_Settler_init : PySem.W.keepIn K (.ref f_Settler_init) = true)
    (mki_Settler : PySem.W.makesIn K C_Settler = true)
    (kc_Settler : PySem.W.keepIn K (.ref C_Settler) = true)
    (a_fewest_measurings : PySem.W.nsIn K mainGlobals "fewest_measurings" = some (some (.ref f_fewest_measurings)))
    (l_fewest_measurings : K.lookup f_fewest_measurings = some ⟨oc30, od30, .func (PySem.W.fnOf "fewest_measurings" "fewest_measurings" (defArgs s_fewest_measurings) (defBody s_fewest_measurings) (defScope s_fewest_measurings) .none kV30 dc30 pm30 an30 cd30 ct30), sl30⟩)
    (c_fewest_measurings : PySem.W.codeIn K cd30 "fewest_measurings" = true)
    (kp_fewest_measurings : PySem.W.keepIn K (.ref f_fewest_measurings) = true)
    (a_next_measuring : PySem.W.nsIn K mainGlobals "next_measuring" = some (some (.ref f_next_measuring)))
    (l_next_measuring : K.lookup f_next_measuring = some ⟨oc31, od31, .func (PySem.W.fnOf "next_measuring" "next_measuring" (defArgs s_next_measuring) (defBody s_next_measuring) (defScope s_next_measuring) .none kV31 dc31 pm31 an31 cd31 ct31), sl31⟩)
    (c_next_measuring : PySem.W.codeIn K cd31 "next_measuring" = true)
    (kp_next_measuring : PySem.W.keepIn K (.ref f_next_measuring) = true)
    (a_law : PySem.W.nsIn K mainGlobals "law" = some (some (.ref f_law)))
    (l_law : K.lookup f_law = some ⟨oc32, od32, .func (PySem.W.fnOf "law" "law" (defArgs s_law) (defBody s_law) (defScope s_law) .none kV32 dc32 pm32 an32 cd32 ct32), sl32⟩)
    (c_law : PySem.W.codeIn K cd32 "law" = true)
    (kp_law : PySem.W.keepIn K (.ref f_law) = true) :
    ∃ fd : FuncData, (∀ (s : Shared) (v : Value), BindsTo s fd ⟨[v], []⟩ [("_law_script", v)]) ∧ ∀ base : Heap, K.In base → base.Ns mainGlobals mg → FnOk l.prog w K mg base (L2.CX l.prog w) 38 fa fd ["_law_script"] (spD K (FLaw m_law)) := by
  have efa := hfa.symm.trans (PySem.W.mg_of X G a_law)
  cases efa
  have mg_LETTERS := PySem.W.mg_of X G g_LETTERS
  have mg_MAX_LETTERS := PySem.W.mg_of X G g_MAX_LETTERS
  have mg_MAX_RULERS := PySem.W.mg_of X G g_MAX_RULERS
  have mg_MAX_ERROR := PySem.W.mg_of X G g_MAX_ERROR
  have mg_MAX_LENGTH := PySem.W.mg_of X G g_MAX_LENGTH
  have mg_MAX_MARKS := PySem.W.mg_of X G g_MAX_MARKS
  have mg_MIN_MARKS := PySem.W.mg_of X G g_MIN_MARKS
  have mg_MAX_OFFSET := PySem.W.mg_of X G g_MAX_OFFSET
  have mg_MAX_MEASURINGS := PySem.W.mg_of X G g_MAX_MEASURINGS
  have mg_MAX_THINGS := PySem.W.mg_of X G g_MAX_THINGS
  have mg_Ruler := PySem.W.mg_of X G g_Ruler
  have cls_Ruler : SlX.SCls K C_Ruler := ⟨pg_Ruler, ic_Ruler, po_Ruler, sa_Ruler⟩
  have isi_Ruler : SlX.SIsi K C_Ruler := ⟨ca_Ruler, cn_Ruler, ct_Ruler, cm_Ruler⟩
  have slot_Ruler_own_error : SlX.Slot1 K C_Ruler "own_error" q_Ruler_own_error 0 := ⟨sa_Ruler_own_error, sg_Ruler_own_error, sk_Ruler_own_error, sy_Ruler_own_error, sx_Ruler_own_error, by decide⟩
  have slot_Ruler_own_marks : SlX.Slot1 K C_Ruler "own_marks" q_Ruler_own_marks 1 := ⟨sa_Ruler_own_marks, sg_Ruler_own_marks, sk_Ruler_own_marks, sy_Ruler_own_marks, sx_Ruler_own_marks, by decide⟩
  have cl_Ruler : Cl_Ruler K C_Ruler := ⟨cls_Ruler, isi_Ruler, ⟨_, slot_Ruler_own_error⟩, ⟨_, slot_Ruler_own_marks⟩, kit_same (by simp), nf_Ruler⟩
  have mg_Rack := PySem.W.mg_of X G g_Rack
  have cls_Rack : SlX.SCls K C_Rack := ⟨pg_Rack, ic_Rack, po_Rack, sa_Rack⟩
  have isi_Rack : SlX.SIsi K C_Rack := ⟨ca_Rack, cn_Rack, ct_Rack, cm_Rack⟩
  have slot_Rack_held : SlX.Slot1 K C_Rack "held" q_Rack_held 0 := ⟨sa_Rack_held, sg_Rack_held, sk_Rack_held, sy_Rack_held, sx_Rack_held, by decide⟩
  have cl_Rack : Cl_Rack K C_Rack := ⟨cls_Rack, isi_Rack, ⟨_, slot_Rack_held⟩, kit_same (by simp), nf_Rack⟩
  have mg_Settler := PySem.W.mg_of X G g_Settler
  have cl_Settler : Clo_Settler K C_Settler := ⟨⟨pg_Settler, hd_Settler, po_Settler, sa_Settler⟩, na_Settler_rack_used, na_Settler_known⟩
  have B : Bn mg := ⟨PySem.W.mg_none_of X G z_int, PySem.W.mg_none_of X G z_len, PySem.W.mg_none_of X G z_list, PySem.W.mg_none_of X G z_range, PySem.W.mg_none_of X G z_sorted, PySem.W.mg_none_of X G z_tuple, PySem.W.mg_none_of X G z_dict, PySem.W.mg_none_of X G z_isinstance, PySem.W.mg_none_of X G z_bool, PySem.W.mg_none_of X G z_str, PySem.W.mg_none_of X G z_enumerate, PySem.W.mg_none_of X G z_reversed, PySem.W.mg_none_of X G z_abs, PySem.W.mg_none_of X G z_min, PySem.W.mg_none_of X G z_max, PySem.W.mg_none_of X G z_sum, PySem.W.mg_none_of X G z_zip, PySem.W.mg_none_of X G z_set, PySem.W.mg_none_of X G z_all, PySem.W.mg_none_of X G z_divmod⟩
  have F_law_alike := fun_mk (st := s_law_alike) l_law_alike c_law_alike kp_law_alike
  have b_law_alike := F_law_alike.binds (ps := ["_law_found", "_law_due"]) fun _ _ _ _ _ _ us hl => match us, hl with | [_, _], _ => rfl
  have mg_law_alike := PySem.W.mg_of X G a_law_alike
  have F_law_mix := fun_mk (st := s_law_mix) l_law_mix c_law_mix kp_law_mix
  have b_law_mix := F_law_mix.binds (ps := ["_law_script", "_law_seed"]) fun _ _ _ _ _ _ us hl => match us, hl with | [_, _], _ => rfl
  have mg_law_mix := PySem.W.mg_of X G a_law_mix
  have F_law_next := fun_mk (st := s_law_next) l_law_next c_law_next kp_law_next
  have b_law_next := F_law_next.binds (ps := ["_law_h", "_law_limit"]) fun _ _ _ _ _ _ us hl => match us, hl with | [_, _], _ => rfl
  have mg_law_next := PySem.W.mg_of X G a_law_next
  have F_law_marks := fun_mk (st := s_law_marks) l_law_marks c_law_marks kp_law_marks
  have b_law_marks := F_law_marks.binds (ps := ["_law_h", "_law_most", "_law_wide"]) fun _ _ _ _ _ _ us hl => match us, hl with | [_, _, _], _ => rfl
  have mg_law_marks := PySem.W.mg_of X G a_law_marks
  have F_law_drawn := fun_mk (st := s_law_drawn) l_law_drawn c_law_drawn kp_law_drawn
  have b_law_drawn := F_law_drawn.binds (ps := ["_law_h", "_law_most", "_law_wide"]) fun _ _ _ _ _ _ us hl => match us, hl with | [_, _, _], _ => rfl
  have mg_law_drawn := PySem.W.mg_of X G a_law_drawn
  have F_law_read := fun_mk (st := s_law_read) l_law_read c_law_read kp_law_read
  have b_law_read := F_law_read.binds (ps := ["_law_marks_here", "_law_end"]) fun _ _ _ _ _ _ us hl => match us, hl with | [_, _], _ => rfl
  have mg_law_read := PySem.W.mg_of X G a_law_read
  have F_law_results := fun_mk (st := s_law_results) l_law_results c_law_results kp_law_results
  have b_law_results := F_law_results.binds (ps := ["_law_drawn_here", "_law_measuring_here", "_law_size"]) fun _ _ _ _ _ _ us hl => match us, hl with | [_, _, _], _ => rfl
  have mg_law_results := PySem.W.mg_of X G a_law_results
  have F_law_parts := fun_mk (st := s_law_parts) l_law_parts c_law_parts kp_law_parts
  have b_law_parts := F_law_parts.binds (ps := ["_law_drawn_here", "_law_sizes_here", "_law_measuring_here"]) fun _ _ _ _ _ _ us hl => match us, hl with | [_, _, _], _ => rfl
  have mg_law_parts := PySem.W.mg_of X G a_law_parts
  have F_law_least := fun_mk (st := s_law_least) l_law_least c_law_least kp_law_least
  have b_law_least := F_law_least.binds (ps := ["_law_drawn_here", "_law_sizes_here", "_law_measurings"]) fun _ _ _ _ _ _ us hl => match us, hl with | [_, _, _], _ => rfl
  have mg_law_least := PySem.W.mg_of X G a_law_least
  have F_law_measuring := fun_mk (st := s_law_measuring) l_law_measuring c_law_measuring kp_law_measuring
  have b_law_measuring := F_law_measuring.binds (ps := ["_law_h", "_law_drawn_here"]) fun _ _ _ _ _ _ us hl => match us, hl with | [_, _], _ => rfl
  have mg_law_measuring := PySem.W.mg_of X G a_law_measuring
  have F_is_name := fun_mk (st := s_is_name) l_is_name c_is_name kp_is_name
  have b_is_name := F_is_name.binds (ps := ["name"]) fun _ _ _ _ _ _ us hl => match us, hl with | [_], _ => rfl
  have mg_is_name := PySem.W.mg_of X G a_is_name
  have F_Rack_init := fun_mk (st := s_Rack_init) l_Rack_init c_Rack_init kp_Rack_init
  have b_Rack_init := F_Rack_init.binds (ps := ["self", "rulers"]) fun _ _ _ _ _ _ us hl => match us, hl with | [_, _], _ => rfl
  have F_is_number := fun_mk (st := s_is_number) l_is_number c_is_number kp_is_number
  have b_is_number := F_is_number.binds (ps := ["value", "lowest", "highest"]) fun _ _ _ _ _ _ us hl => match us, hl with | [_, _, _], _ => rfl
  have mg_is_number := PySem.W.mg_of X G a_is_number
  have F_Ruler_init := fun_mk (st := s_Ruler_init) l_Ruler_init c_Ruler_init kp_Ruler_init
  have b_Ruler_init := F_Ruler_init.binds (ps := ["self", "marks", "error"]) fun _ _ _ _ _ _ us hl => match us, hl with | [_, _, _], _ => rfl
  have F_law_rack := fun_mk (st := s_law_rack) l_law_rack c_law_rack kp_law_rack
  have b_law_rack := F_law_rack.binds (ps := ["_law_drawn_here"]) fun _ _ _ _ _ _ us hl => match us, hl with | [_], _ => rfl
  have mg_law_rack := PySem.W.mg_of X G a_law_rack
  have F_law_sizes := fun_mk (st := s_law_sizes) l_law_sizes c_law_sizes kp_law_sizes
  have b_law_sizes := F_law_sizes.binds (ps := ["_law_h", "_law_most"]) fun _ _ _ _ _ _ us hl => match us, hl with | [_, _], _ => rfl
  have mg_law_sizes := PySem.W.mg_of X G a_law_sizes
  have F_validate_lengths_of_things := fun_mk (st := s_validate_lengths_of_things) l_validate_lengths_of_things c_validate_lengths_of_things kp_validate_lengths_of_things
  have b_validate_lengths_of_things := F_validate_lengths_of_things.binds (ps := ["values"]) fun _ _ _ _ _ _ us hl => match us, hl with | [_], _ => rfl
  have mg_validate_lengths_of_things := PySem.W.mg_of X G a_validate_lengths_of_things
  have F_Rack_contains := fun_mk (st := s_Rack_contains) l_Rack_contains c_Rack_contains kp_Rack_contains
  have b_Rack_contains := F_Rack_contains.binds (ps := ["self", "name"]) fun _ _ _ _ _ _ us hl => match us, hl with | [_, _], _ => rfl
  have F_validate_measurings := fun_mk (st := s_validate_measurings) l_validate_measurings c_validate_measurings kp_validate_measurings
  have b_validate_measurings := F_validate_measurings.binds (ps := ["rack", "measurings"]) fun _ _ _ _ _ _ us hl => match us, hl with | [_, _], _ => rfl
  have mg_validate_measurings := PySem.W.mg_of X G a_validate_measurings
  have F_mirrored := fun_mk (st := s_mirrored) l_mirrored c_mirrored kp_mirrored
  have b_mirrored := F_mirrored.binds (ps := ["marks"]) fun _ _ _ _ _ _ us hl => match us, hl with | [_], _ => rfl
  have mg_mirrored := PySem.W.mg_of X G a_mirrored
  have F_read_at := fun_mk (st := s_read_at) l_read_at c_read_at kp_read_at
  have b_read_at := F_read_at.binds (ps := ["marks", "length"]) fun _ _ _ _ _ _ us hl => match us, hl with | [_, _], _ => rfl
  have mg_read_at := PySem.W.mg_of X G a_read_at
  have F_Ruler_error := fun_mk (st := s_Ruler_error) l_Ruler_error c_Ruler_error kp_Ruler_error
  have b_Ruler_error := F_Ruler_error.binds (ps := ["self"]) fun _ _ _ _ _ _ us hl => match us, hl with | [_], _ => rfl
  have F_Ruler_marks := fun_mk (st := s_Ruler_marks) l_Ruler_marks c_Ruler_marks kp_Ruler_marks
  have b_Ruler_marks := F_Ruler_marks.binds (ps := ["self"]) fun _ _ _ _ _ _ us hl => match us, hl with | [_], _ => rfl
  have F_Rack_getitem := fun_mk (st := s_Rack_getitem) l_Rack_getitem c_Rack_getitem kp_Rack_getitem
  have b_Rack_getitem := F_Rack_getitem.binds (ps := ["self", "name"]) fun _ _ _ _ _ _ us hl => match us, hl with | [_, _], _ => rfl
  have F_all_results := fun_mk (st := s_all_results) l_all_results c_all_results kp_all_results
  have b_all_results := F_all_results.binds (ps := ["rack", "measuring", "length"]) fun _ _ _ _ _ _ us hl => match us, hl with | [_, _, _], _ => rfl
  have mg_all_results := PySem.W.mg_of X G a_all_results
  have F_parted := fun_mk (st := s_parted) l_parted c_parted kp_parted
  have b_parted := F_parted.binds (ps := ["rack", "values", "measuring"]) fun _ _ _ _ _ _ us hl => match us, hl with | [_, _, _], _ => rfl
  have mg_parted := PySem.W.mg_of X G a_parted
  have F_Settler_is_settled := fun_mk (st := s_Settler_is_settled) l_Settler_is_settled c_Settler_is_settled kp_Settler_is_settled
  have b_Settler_is_settled := F_Settler_is_settled.binds (ps := ["self", "values", "measurings", "count"]) fun _ _ _ _ _ _ us hl => match us, hl with | [_, _, _, _], _ => rfl
  have F_Settler_has_good := fun_mk (st := s_Settler_has_good) l_Settler_has_good c_Settler_has_good kp_Settler_has_good
  have b_Settler_has_good := F_Settler_has_good.binds (ps := ["self", "values", "measurings", "count"]) fun _ _ _ _ _ _ us hl => match us, hl with | [_, _, _, _], _ => rfl
  have F_Settler_init := fun_mk (st := s_Settler_init) l_Settler_init c_Settler_init kp_Settler_init
  have b_Settler_init := F_Settler_init.binds (ps := ["self", "rack"]) fun _ _ _ _ _ _ us hl => match us, hl with | [_, _], _ => rfl
  have F_fewest_measurings := fun_mk (st := s_fewest_measurings) l_fewest_measurings c_fewest_measurings kp_fewest_measurings
  have b_fewest_measurings := F_fewest_measurings.binds (ps := ["rack", "lengths", "measurings"]) fun _ _ _ _ _ _ us hl => match us, hl with | [_, _, _], _ => rfl
  have mg_fewest_measurings := PySem.W.mg_of X G a_fewest_measurings
  have F_next_measuring := fun_mk (st := s_next_measuring) l_next_measuring c_next_measuring kp_next_measuring
  have b_next_measuring := F_next_measuring.binds (ps := ["rack", "lengths", "measurings"]) fun _ _ _ _ _ _ us hl => match us, hl with | [_, _, _], _ => rfl
  have mg_next_measuring := PySem.W.mg_of X G a_next_measuring
  have F_law := fun_mk (st := s_law) l_law c_law kp_law
  have b_law := F_law.binds (ps := ["_law_script"]) fun _ _ _ _ _ _ us hl => match us, hl with | [_], _ => rfl
  refine ⟨PySem.W.fnOf "law" "law" (defArgs s_law) (defBody s_law) (defScope s_law) .none kV32 dc32 pm32 an32 cd32 ct32, fun s v => .of_eq rfl, fun base _ _ => ?_⟩
  have c_law_alike_0 : Cal l.prog w K mg base "_law_alike" 3 ["_law_found", "_law_due"] (alikeF 0) := ⟨f_law_alike, _, ok_law_alike (n := 0) (k := 2) F_law_alike B (fun h => absurd h (by decide)), mg_law_alike, kp_law_alike, b_law_alike⟩
  have c_law_mix : Cal l.prog w K mg base "_law_mix" 3 ["_law_script", "_law_seed"] (FMix m_law_mix) := ⟨f_law_mix, _, ok_law_mix F_law_mix B, mg_law_mix, kp_law_mix, b_law_mix⟩
  have c_law_next : Cal l.prog w K mg base "_law_next" 3 ["_law_h", "_law_limit"] (FBh (A := Int) (R := Int) (fun a => [eI a]) (fun v => .sh (eI v)) (fun a => m_law_next a)) := ⟨f_law_next, _, ok_law_next F_law_next B, mg_law_next, kp_law_next, b_law_next⟩
  have c_law_marks : Cal l.prog w K mg base "_law_marks" 5 ["_law_h", "_law_most", "_law_wide"] (FBh (A := Int × Int) (R := List Int) (fun a => [eI a.1, eI a.2]) (fun v => .sh ((eT eI) v)) (fun a => m_law_marks a.1 a.2)) := ⟨f_law_marks, _, ok_law_marks F_law_marks B c_law_next, mg_law_marks, kp_law_marks, b_law_marks⟩
  have c_law_drawn : Cal l.prog w K mg base "_law_drawn" 7 ["_law_h", "_law_most", "_law_wide"] (FBh (A := Int × Int) (R := List (S × (List Int × Int))) (fun a => [eI a.1, eI a.2]) (fun v => .fr ((eD kZ (eP (eT eI) eI)) v)) (fun a => m_law_drawn a.1 a.2)) := ⟨f_law_drawn, _, ok_law_drawn F_law_drawn B c_law_marks c_law_next, mg_law_drawn, kp_law_drawn, b_law_drawn⟩
  have c_law_read : Cal l.prog w K mg base "_law_read" 3 ["_law_marks_here", "_law_end"] (FM cx (A := (List Int) × Int) (R := (Int × Bool)) (fun a => [(eT eI) a.1, eI a.2]) (fun v => .sh ((eP eI eB) v)) (fun a => m_law_read a.1 a.2)) := ⟨f_law_read, _, ok_law_read F_law_read B, mg_law_read, kp_law_read, b_law_read⟩
  have c_law_results : Cal l.prog w K mg base "_law_results" 5 ["_law_drawn_here", "_law_measuring_here", "_law_size"] (FM cx (A := (List (S × (List Int × Int))) × ((S × Bool × Int)) × Int) (R := List ((Int × Bool))) (fun a => [(eD kZ (eP (eT eI) eI)) a.1, (eP3 eZ eB eI) a.2.1, eI a.2.2]) (fun v => .fr ((eL (eP eI eB)) v)) (fun a => m_law_results a.1 a.2.1 a.2.2)) := ⟨f_law_results, _, ok_law_results F_law_results B c_law_read, mg_law_results, kp_law_results, b_law_results⟩
  have c_law_parts : Cal l.prog w K mg base "_law_parts" 7 ["_law_drawn_here", "_law_sizes_here", "_law_measuring_here"] (FM cx (A := (List (S × (List Int × Int))) × (List Int) × ((S × Bool × Int))) (R := List ((Int × Bool) × List Int)) (fun a => [(eD kZ (eP (eT eI) eI)) a.1, (eT eI) a.2.1, (eP3 eZ eB eI) a.2.2]) (fun v => .fr ((eKd w (eP eI eB) (eT eI)) v)) (fun a => m_law_parts a.1 a.2.1 a.2.2)) := ⟨f_law_parts, _, ok_law_parts F_law_parts B c_law_results, mg_law_parts, kp_law_parts, b_law_parts⟩
  have c_law_least : Cal l.prog w K mg base "_law_least" 21 ["_law_drawn_here", "_law_sizes_here", "_law_measurings"] (FM cx (A := (List (S × (List Int × Int))) × (List Int) × (List ((S × Bool × Int)))) (R := Int) (fun a => [(eD kZ (eP (eT eI) eI)) a.1, (eT eI) a.2.1, (eL (eP3 eZ eB eI)) a.2.2]) (fun v => .sh (eI v)) (fun a => m_law_least 6 a.1 a.2.1 a.2.2)) := cal_law_least 6 F_law_least B c_law_parts mg_law_least kp_law_least b_law_least
  have c_law_measuring : Cal l.prog w K mg base "_law_measuring" 5 ["_law_h", "_law_drawn_here"] (FBh (A := List (S × (List Int × Int))) (R := (S × Bool × Int)) (fun a => [(eD kZ (eP (eT eI) eI)) a]) (fun v => .sh ((eP3 eZ eB eI) v)) (fun a => m_law_measuring a)) := ⟨f_law_measuring, _, ok_law_measuring F_law_measuring B c_law_next, mg_law_measuring, kp_law_measuring, b_law_measuring⟩
  have c_is_name : Cal l.prog w K mg base "is_name" 3 ["name"] (FM cx (A := S) (R := Bool) (fun a => [eZ a]) (fun v => .sh (eB v)) (fun a => m_is_name a)) := ⟨f_is_name, _, ok_is_name F_is_name B mg_LETTERS mg_MAX_LETTERS, mg_is_name, kp_is_name, b_is_name⟩
  have k_Rack : MakeD l.prog w K mg base "Rack" C_Rack 5 ["self", "rulers"] (FMI cx (A := List (S × Rul)) (R := Rak) (fun a => [(eD kZ (eRul C_Ruler)) a]) (fun r => [eD kZ (eRul C_Ruler) r.held]) (fun a => mk_Rack a)) := ⟨f_Rack_init, _, ⟨mki_Rack, at_Rack_init, fn_Rack_init, kc_Rack⟩, mg_Rack, ok_Rack_init F_Rack_init B c_is_name cl_Rack mg_MAX_RULERS, b_Rack_init⟩
  have c_is_number : Cal l.prog w K mg base "is_number" 3 ["value", "lowest", "highest"] (FM cx (A := Int × Int × Int) (R := Bool) (fun a => [eI a.1, eI a.2.1, eI a.2.2]) (fun v => .sh (eB v)) (fun a => .ok (m_is_number a.1 a.2.1 a.2.2))) := ⟨f_is_number, _, ok_is_number F_is_number B, mg_is_number, kp_is_number, b_is_number⟩
  have k_Ruler : MakeD l.prog w K mg base "Ruler" C_Ruler 5 ["self", "marks", "error"] (FMI cx (A := (List Int) × Int) (R := Rul) (fun a => [(eT eI) a.1, eI a.2]) (fun r => [.int r.error, .tup (r.marks.map D.int)]) (fun a => mk_Ruler a.1 a.2)) := ⟨f_Ruler_init, _, ⟨mki_Ruler, at_Ruler_init, fn_Ruler_init, kc_Ruler⟩, mg_Ruler, ok_Ruler_init F_Ruler_init B c_is_number cl_Ruler mg_MAX_ERROR mg_MAX_LENGTH mg_MAX_MARKS mg_MIN_MARKS, b_Ruler_init⟩
  have c_law_rack : Cal l.prog w K mg base "_law_rack" 8 ["_law_drawn_here"] (FM cx (A := List (S × (List Int × Int))) (R := Rak) (fun a => [(eD kZ (eP (eT eI) eI)) a]) (fun v => .sh ((eRak C_Rack C_Ruler) v)) (fun a => m_law_rack a)) := ⟨f_law_rack, _, ok_law_rack F_law_rack B k_Rack k_Ruler, mg_law_rack, kp_law_rack, b_law_rack⟩
  have c_law_sizes : Cal l.prog w K mg base "_law_sizes" 5 ["_law_h", "_law_most"] (FBh (A := Int) (R := List Int) (fun a => [eI a]) (fun v => .sh ((eT eI) v)) (fun a => m_law_sizes a)) := ⟨f_law_sizes, _, ok_law_sizes F_law_sizes B c_law_next, mg_law_sizes, kp_law_sizes, b_law_sizes⟩
  have c_validate_lengths_of_things_t : Cal l.prog w K mg base "validate_lengths_of_things" 5 ["values"] (FM cx (A := List Int) (R := Unit) (fun a => [(eT eI) a]) (fun v => .sh (eU v)) (fun a => m_validate_lengths_of_things_t a)) := ⟨f_validate_lengths_of_things, _, ok_validate_lengths_of_things_t F_validate_lengths_of_things B c_is_number mg_MAX_LENGTH, mg_validate_lengths_of_things, kp_validate_lengths_of_things, b_validate_lengths_of_things⟩
  have x_Rack_contains : SpecD l.prog w K mg base C_Rack "__contains__" 3 ["self", "name"] (FM cx (A := Rak × S) (R := Bool) (fun a => [(eRak C_Rack C_Ruler) a.1, eZ a.2]) (fun v => .sh (eB v)) (fun a => .ok (m_Rack___contains a.1 a.2))) := ⟨f_Rack_contains, _, at_Rack_contains, fn_Rack_contains, ok_Rack_contains F_Rack_contains B cl_Rack, b_Rack_contains⟩
  have c_validate_measurings : Cal l.prog w K mg base "validate_measurings" 6 ["rack", "measurings"] (FM cx (A := Rak × (List ((S × Bool × Int)))) (R := Unit) (fun a => [(eRak C_Rack C_Ruler) a.1, (eL (eP3 eZ eB eI)) a.2]) (fun v => .sh (eU v)) (fun a => m_validate_measurings a.1 a.2)) := ⟨f_validate_measurings, _, ok_validate_measurings F_validate_measurings B c_is_number cl_Rack mg_MAX_OFFSET x_Rack_contains, mg_validate_measurings, kp_validate_measurings, b_validate_measurings⟩
  have c_mirrored : Cal l.prog w K mg base "mirrored" 3 ["marks"] (FM cx (A := List Int) (R := List Int) (fun a => [(eT eI) a]) (fun v => .sh ((eT eI) v)) (fun a => m_mirrored a)) := ⟨f_mirrored, _, ok_mirrored F_mirrored B, mg_mirrored, kp_mirrored, b_mirrored⟩
  have c_read_at : Cal l.prog w K mg base "read_at" 3 ["marks", "length"] (FM cx (A := (List Int) × Int) (R := (Int × Bool)) (fun a => [(eT eI) a.1, eI a.2]) (fun v => .sh ((eP eI eB) v)) (fun a => m_read_at a.1 a.2)) := ⟨f_read_at, _, ok_read_at F_read_at B, mg_read_at, kp_read_at, b_read_at⟩
  have p_Ruler_error : PropD l.prog w K mg base C_Ruler "error" 3 (FM cx (A := Rul) (R := Int) (fun a => [(eRul C_Ruler) a]) (fun v => .sh (eI v)) (fun a => .ok (m_Ruler_error a))) := ⟨p_Ruler_error, f_Ruler_error, _, at_Ruler_error, sp_Ruler_error, tk_Ruler_error, ⟨_, rc_Ruler_error⟩, ok_Ruler_error F_Ruler_error B cl_Ruler, b_Ruler_error⟩
  have p_Ruler_marks : PropD l.prog w K mg base C_Ruler "marks" 3 (FM cx (A := Rul) (R := List Int) (fun a => [(eRul C_Ruler) a]) (fun v => .sh ((eT eI) v)) (fun a => .ok (m_Ruler_marks a))) := ⟨p_Ruler_marks, f_Ruler_marks, _, at_Ruler_marks, sp_Ruler_marks, tk_Ruler_marks, ⟨_, rc_Ruler_marks⟩, ok_Ruler_marks F_Ruler_marks B cl_Ruler, b_Ruler_marks⟩
  have x_Rack_getitem : ItemD l.prog w K mg base C_Rack 3 ["self", "name"] (FM cx (A := Rak × S) (R := Rul) (fun a => [(eRak C_Rack C_Ruler) a.1, eZ a.2]) (fun v => .sh ((eRul C_Ruler) v)) (fun a => m_Rack___getitem a.1 a.2)) := ⟨f_Rack_getitem, _, at_Rack_getitem, fn_Rack_getitem, (by unfold PySem.W.fnIn; rw [l_Rack_getitem]), ok_Rack_getitem F_Rack_getitem B cl_Rack, b_Rack_getitem⟩
  have c_all_results : Cal l.prog w K mg base "all_results" 6 ["rack", "measuring", "length"] (FM cx (A := Rak × ((S × Bool × Int)) × Int) (R := List ((Int × Bool))) (fun a => [(eRak C_Rack C_Ruler) a.1, (eP3 eZ eB eI) a.2.1, eI a.2.2]) (fun v => .fr ((eL (eP eI eB)) v)) (fun a => m_all_results a.1 a.2.1 a.2.2)) := ⟨f_all_results, _, ok_all_results F_all_results B c_mirrored c_read_at cl_Rack cl_Ruler p_Ruler_error p_Ruler_marks x_Rack_getitem, mg_all_results, kp_all_results, b_all_results⟩
  have c_parted : Cal l.prog w K mg base "parted" 8 ["rack", "values", "measuring"] (FM cx (A := Rak × (List Int) × ((S × Bool × Int))) (R := List ((Int × Bool) × List Int)) (fun a => [(eRak C_Rack C_Ruler) a.1, (eT eI) a.2.1, (eP3 eZ eB eI) a.2.2]) (fun v => .fr ((eKd w (eP eI eB) (eT eI)) v)) (fun a => m_parted a.1 a.2.1 a.2.2)) := ⟨f_parted, _, ok_parted F_parted B c_all_results, mg_parted, kp_parted, b_parted⟩
  have d_Settler_is_settled : MethD l.prog w K mg base C_Settler "is_settled" 34 ["self", "values", "measurings", "count"] (FMO cx C_Settler ns_Settler (σT := S_Settler) (A := (List Int) × (List ((S × Bool × Int))) × Int) (R := Bool) (fl_Settler w C_Ruler C_Rack) (fun a => [(eT eI) a.1, (eT (eP3 eZ eB eI)) a.2.1, eI a.2.2]) (fun v => .sh (eB v)) (fun s a => m_Settler_is_settled 6 s a.1 a.2.1 a.2.2)) := cal_Settler_is_settled 6 F_Settler_is_settled F_Settler_has_good B c_parted cl_Settler ⟨at_Settler_is_settled, fn_Settler_is_settled, kp_Settler_is_settled⟩ b_Settler_is_settled ⟨at_Settler_has_good, fn_Settler_has_good, kp_Settler_has_good⟩ b_Settler_has_good
  have k_Settler : MakeO l.prog w K mg base "Settler" C_Settler 3 ["self", "rack"] (FIO cx C_Settler ns_Settler (σT := S_Settler) (A := Rak) (fl_Settler w C_Ruler C_Rack) (fun a => [(eRak C_Rack C_Ruler) a]) (fun a => mk_Settler a)) := ⟨f_Settler_init, _, ⟨mki_Settler, at_Settler_init, fn_Settler_init, kc_Settler⟩, mg_Settler, ok_Settler_init F_Settler_init B cl_Settler, b_Settler_init⟩
  have c_fewest_measurings : Cal l.prog w K mg base "fewest_measurings" 36 ["rack", "lengths", "measurings"] (FM cx (A := Rak × (List Int) × (List ((S × Bool × Int)))) (R := Option (Int)) (fun a => [(eRak C_Rack C_Ruler) a.1, (eT eI) a.2.1, (eL (eP3 eZ eB eI)) a.2.2]) (fun v => .sh ((eO eI) v)) (fun a => m_fewest_measurings a.1 a.2.1 a.2.2)) := ⟨f_fewest_measurings, _, ok_fewest_measurings F_fewest_measurings B c_validate_lengths_of_things_t c_validate_measurings mg_MAX_MEASURINGS mg_MAX_THINGS cl_Settler d_Settler_is_settled k_Settler, mg_fewest_measurings, kp_fewest_measurings, b_fewest_measurings⟩
  have c_next_measuring : Cal l.prog w K mg base "next_measuring" 10 ["rack", "lengths", "measurings"] (FM cx (A := Rak × (List Int) × (List ((S × Bool × Int)))) (R := Option (Int)) (fun a => [(eRak C_Rack C_Ruler) a.1, (eT eI) a.2.1, (eL (eP3 eZ eB eI)) a.2.2]) (fun v => .sh ((eO eI) v)) (fun a => m_next_measuring a.1 a.2.1 a.2.2)) := ⟨f_next_measuring, _, ok_next_measuring F_next_measuring B c_parted c_validate_lengths_of_things_t c_validate_measurings, mg_next_measuring, kp_next_measuring, b_next_measuring⟩
  exact ok_law F_law B c_law_alike_0 c_law_mix c_law_drawn c_law_least c_law_measuring c_law_next c_law_parts c_law_rack c_law_sizes c_fewest_measurings c_next_measuring
theorem walk {l : PySem.W.OpenLaw} {q : Program} {loose : List Str} {XP : (Str → Option Value) → Heap → Prop} {YP : World → Heap → Prop} {d : DefRec} {K : Params → PySem.W.Frag} (hn : l.most = some 63) (hdf : d.params.defaults = [])
    (hY : ∀ (w : World) (h : Heap), YP w h → (K w.params).In h)
    (F : ∀ (w : World) (mg : Str → Option Value) (fa : Addr) (h : Heap), (K w.params).In h → h.Ns mainGlobals mg → mg d.name = some (.ref fa) →
      ∃ fd : FuncData, (∀ (s : Shared) (u : Value), BindsTo s fd ⟨[u], []⟩ [("_law_script", u)]) ∧ ∀ base : Heap, (K w.params).In base → base.Ns mainGlobals mg → FnOk l.prog w (K w.params) mg base (L2.CX l.prog w) 38 fa fd ["_law_script"] (spD (K w.params) (FLaw m_law))) :
    PySem.W.WalkO q loose XP YP l.row.toRowW d [] (fun f vs => PySem.call f vs) :=
  L2.walk_of (n := 63) (k := 38) (x := "_law_script") (CX := fun w => L2.CX l.prog w) (sp := fun w => spD (K w.params) (FLaw m_law)) hn (by decide) hdf ⟨rfl, by decide, by decide⟩ hY F (fun _ H a ns hl _ hS => law_sp hl hS) fun _ _ _ _ _ h => by
    obtain ⟨_, _, _, _, _, _, _, _, _, _, _, _, z⟩ := h
    exact z
end
end RB
open PySem PySem.W PyProof.Rows
set_option maxRecDepth 100000 in
set_option maxHeartbeats 0 in
theorem PySem.Challenge.cw_rulerbits_k32_whole_measurings_to_be_mad_holds : PySem.Challenge.rw_rulerbits_k32_whole_measurings_to_be_mad.Holds := by
  w_on; o_law; k_head; (case hw => w_witness2)
  k_fill
  refine RB.walk (l := PySem.Challenge.rw_rulerbits_k32_whole_measurings_to_be_mad) rfl rfl (fun w h Y => PySem.W.kIn_of Y) ?F
  case F =>
    intro w mg fa h KX G hmg
    refine' RB.all_mk (fun _ => 0) KX G hmg ?z_int ?z_len ?z_list ?z_range ?z_sorted ?z_tuple ?z_dict ?z_isinstance ?z_bool ?z_str ?z_enumerate ?z_reversed ?z_abs ?z_min ?z_max ?z_sum ?z_zip ?z_set ?z_all ?z_divmod ?g_LETTERS ?g_MAX_LETTERS ?g_MAX_RULERS ?g_MAX_ERROR ?g_MAX_LENGTH ?g_MAX_MARKS ?g_MIN_MARKS ?g_MAX_OFFSET ?g_MAX_MEASURINGS ?g_MAX_THINGS ?g_Ruler ?pg_Ruler ?ic_Ruler ?po_Ruler ?sa_Ruler ?ca_Ruler ?cn_Ruler ?ct_Ruler ?cm_Ruler ?sa_Ruler_own_error ?sg_Ruler_own_error ?sk_Ruler_own_error ?sy_Ruler_own_error ?sx_Ruler_own_error ?sa_Ruler_own_marks ?sg_Ruler_own_marks ?sk_Ruler_own_marks ?sy_Ruler_own_marks ?sx_Ruler_own_marks ?nf_Ruler ?g_Rack ?pg_Rack ?ic_Rack ?po_Rack ?sa_Rack ?ca_Rack ?cn_Rack ?ct_Rack ?cm_Rack ?sa_Rack_held ?sg_Rack_held ?sk_Rack_held ?sy_Rack_held ?sx_Rack_held ?nf_Rack ?g_Settler ?pg_Settler ?hd_Settler ?po_Settler ?sa_Settler ?na_Settler_rack_used ?na_Settler_known ?a_law_alike ?l_law_alike ?c_law_alike ?kp_law_alike ?a_law_mix ?l_law_mix ?c_law_mix ?kp_law_mix ?a_law_next ?l_law_next ?c_law_next ?kp_law_next ?a_law_marks ?l_law_marks ?c_law_marks ?kp_law_marks ?a_law_drawn ?l_law_drawn ?c_law_drawn ?kp_law_drawn ?a_law_read ?l_law_read ?c_law_read ?kp_law_read ?a_law_results ?l_law_results ?c_law_results ?kp_law_results ?a_law_parts ?l_law_parts ?c_law_parts ?kp_law_parts ?a_law_least ?l_law_least ?c_law_least ?kp_law_least ?a_law_measuring ?l_law_measuring ?c_law_measuring ?kp_law_measuring ?a_is_name ?l_is_name ?c_is_name ?kp_is_name ?at_Rack_init ?fn_Rack_init ?l_Rack_init ?c_Rack_init ?kp_Rack_init ?mki_Rack ?kc_Rack ?a_is_number ?l_is_number ?c_is_number ?kp_is_number ?at_Ruler_init ?fn_Ruler_init ?l_Ruler_init ?c_Ruler_init ?kp_Ruler_init ?mki_Ruler ?kc_Ruler ?a_law_rack ?l_law_rack ?c_law_rack ?kp_law_rack ?a_law_sizes ?l_law_sizes ?c_law_sizes ?kp_law_sizes ?a_validate_lengths_of_things ?l_validate_lengths_of_things ?c_validate_lengths_of_things ?kp_validate_lengths_of_things ?at_Rack_contains ?fn_Rack_contains ?l_Rack_contains ?c_Rack_contains ?kp_Rack_contains ?a_validate_measurings ?l_validate_measurings ?c_validate_measurings ?kp_validate_measurings ?a_mirrored ?l_mirrored ?c_mirrored ?kp_mirrored ?a_read_at ?l_read_at ?c_read_at ?kp_read_at ?at_Ruler_error ?sp_Ruler_error ?tk_Ruler_error ?rc_Ruler_error ?l_Ruler_error ?c_Ruler_error ?kp_Ruler_error ?at_Ruler_marks ?sp_Ruler_marks ?tk_Ruler_marks ?rc_Ruler_marks ?l_Ruler_marks ?c_Ruler_marks ?kp_Ruler_marks ?at_Rack_getitem ?fn_Rack_getitem ?l_Rack_getitem ?c_Rack_getitem ?kp_Rack_getitem ?a_all_results ?l_all_results ?c_all_results ?kp_all_results ?a_parted ?l_parted ?c_parted ?kp_parted ?at_Settler_is_settled ?fn_Settler_is_settled ?l_Settler_is_settled ?c_Settler_is_settled ?kp_Settler_is_settled ?at_Settler_has_good ?fn_Settler_has_good ?l_Settler_has_good ?c_Settler_has_good ?kp_Settler_has_good ?at_Settler_init ?fn_Settler_init ?l_Settler_init ?c_Settler_init ?kp_Settler_init ?mki_Settler ?kc_Settler ?a_fewest_measurings ?l_fewest_measurings ?c_fewest_measurings ?kp_fewest_measurings ?a_next_measuring ?l_next_measuring ?c_next_measuring ?kp_next_measuring ?a_law ?l_law ?c_law ?kp_law
    (case z_int => k_is)
    (case z_len => k_is)
    (case z_list => k_is)
    (case z_range => k_is)
    (case z_sorted => k_is)
    (case z_tuple => k_is)
    (case z_dict => k_is)
    (case z_isinstance => k_is)
    (case z_bool => k_is)
    (case z_str => k_is)
    (case z_enumerate => k_is)
    (case z_reversed => k_is)
    (case z_abs => k_is)
    (case z_min => k_is)
    (case z_max => k_is)
    (case z_sum => k_is)
    (case z_zip => k_is)
    (case z_set => k_is)
    (case z_all => k_is)
    (case z_divmod => k_is)
    (case g_LETTERS => k_is)
    (case g_MAX_LETTERS => k_is)
    (case g_MAX_RULERS => k_is)
    (case g_MAX_ERROR => k_is)
    (case g_MAX_LENGTH => k_is)
    (case g_MAX_MARKS => k_is)
    (case g_MIN_MARKS => k_is)
    (case g_MAX_OFFSET => k_is)
    (case g_MAX_MEASURINGS => k_is)
    (case g_MAX_THINGS => k_is)
    (case g_Ruler => k_is)
    (case pg_Ruler => k_is)
    (case ic_Ruler => k_is)
    (case po_Ruler => k_is)
    (case sa_Ruler => k_is)
    (case ca_Ruler => k_is)
    (case cn_Ruler => k_is)
    (case ct_Ruler => k_is)
    (case cm_Ruler => k_is)
    (case sa_Ruler_own_error => k_is)
    (case sg_Ruler_own_error => k_is)
    (case sk_Ruler_own_error => k_is)
    (case sy_Ruler_own_error => k_is)
    (case sx_Ruler_own_error => k_is)
    (case sa_Ruler_own_marks => k_is)
    (case sg_Ruler_own_marks => k_is)
    (case sk_Ruler_own_marks => k_is)
    (case sy_Ruler_own_marks => k_is)
    (case sx_Ruler_own_marks => k_is)
    (case nf_Ruler => k_is)
    (case g_Rack => k_is)
    (case pg_Rack => k_is)
    (case ic_Rack => k_is)
    (case po_Rack => k_is)
    (case sa_Rack => k_is)
    (case ca_Rack => k_is)
    (case cn_Rack => k_is)
    (case ct_Rack => k_is)
    (case cm_Rack => k_is)
    (case sa_Rack_held => k_is)
    (case sg_Rack_held => k_is)
    (case sk_Rack_held => k_is)
    (case sy_Rack_held => k_is)
    (case sx_Rack_held => k_is)
    (case nf_Rack => k_is)
    (case g_Settler => k_is)
    (case pg_Settler => k_is)
    (case hd_Settler => k_is)
    (case po_Settler => k_is)
    (case sa_Settler => k_is)
    (case na_Settler_rack_used => k_is)
    (case na_Settler_known => k_is)
    (case a_law_alike => k_is)
    (case l_law_alike => k_is)
    (case c_law_alike => k_is)
    (case kp_law_alike => k_is)
    (case a_law_mix => k_is)
    (case l_law_mix => k_is)
    (case c_law_mix => k_is)
    (case kp_law_mix => k_is)
    (case a_law_next => k_is)
    (case l_law_next => k_is)
    (case c_law_next => k_is)
    (case kp_law_next => k_is)
    (case a_law_marks => k_is)
    (case l_law_marks => k_is)
    (case c_law_marks => k_is)
    (case kp_law_marks => k_is)
    (case a_law_drawn => k_is)
    (case l_law_drawn => k_is)
    (case c_law_drawn => k_is)
    (case kp_law_drawn => k_is)
    (case a_law_read => k_is)
    (case l_law_read => k_is)
    (case c_law_read => k_is)
    (case kp_law_read => k_is)
    (case a_law_results => k_is)
    (case l_law_results => k_is)
    (case c_law_results => k_is)
    (case kp_law_results => k_is)
    (case a_law_parts => k_is)
    (case l_law_parts => k_is)
    (case c_law_parts => k_is)
    (case kp_law_parts => k_is)
    (case a_law_least => k_is)
    (case l_law_least => k_is)
    (case c_law_least => k_is)
    (case kp_law_least => k_is)
    (case a_law_measuring => k_is)
    (case l_law_measuring => k_is)
    (case c_law_measuring => k_is)
    (case kp_law_measuring => k_is)
    (case a_is_name => k_is)
    (case l_is_name => k_is)
    (case c_is_name => k_is)
    (case kp_is_name => k_is)
    (case at_Rack_init => k_is)
    (case fn_Rack_init => k_is)
    (case l_Rack_init => k_is)
    (case c_Rack_init => k_is)
    (case kp_Rack_init => k_is)
    (case mki_Rack => k_is)
    (case kc_Rack => k_is)
    (case a_is_number => k_is)
    (case l_is_number => k_is)
    (case c_is_number => k_is)
    (case kp_is_number => k_is)
    (case at_Ruler_init => k_is)
    (case fn_Ruler_init => k_is)
    (case l_Ruler_init => k_is)
    (case c_Ruler_init => k_is)
    (case kp_Ruler_init => k_is)
    (case mki_Ruler => k_is)
    (case kc_Ruler => k_is)
    (case a_law_rack => k_is)
    (case l_law_rack => k_is)
    (case c_law_rack => k_is)
    (case kp_law_rack => k_is)
    (case a_law_sizes => k_is)
    (case l_law_sizes => k_is)
    (case c_law_sizes => k_is)
    (case kp_law_sizes => k_is)
    (case a_validate_lengths_of_things => k_is)
    (case l_validate_lengths_of_things => k_is)
    (case c_validate_lengths_of_things => k_is)
    (case kp_validate_lengths_of_things => k_is)
    (case at_Rack_contains => k_is)
    (case fn_Rack_contains => k_is)
    (case l_Rack_contains => k_is)
    (case c_Rack_contains => k_is)
    (case kp_Rack_contains => k_is)
    (case a_validate_measurings => k_is)
    (case l_validate_measurings => k_is)
    (case c_validate_measurings => k_is)
    (case kp_validate_measurings => k_is)
    (case a_mirrored => k_is)
    (case l_mirrored => k_is)
    (case c_mirrored => k_is)
    (case kp_mirrored => k_is)
    (case a_read_at => k_is)
    (case l_read_at => k_is)
    (case c_read_at => k_is)
    (case kp_read_at => k_is)
    (case at_Ruler_error => k_is)
    (case sp_Ruler_error => k_is)
    (case tk_Ruler_error => k_is)
    (case rc_Ruler_error => k_is)
    (case l_Ruler_error => k_is)
    (case c_Ruler_error => k_is)
    (case kp_Ruler_error => k_is)
    (case at_Ruler_marks => k_is)
    (case sp_Ruler_marks => k_is)
    (case tk_Ruler_marks => k_is)
    (case rc_Ruler_marks => k_is)
    (case l_Ruler_marks => k_is)
    (case c_Ruler_marks => k_is)
    (case kp_Ruler_marks => k_is)
    (case at_Rack_getitem => k_is)
    (case fn_Rack_getitem => k_is)
    (case l_Rack_getitem => k_is)
    (case c_Rack_getitem => k_is)
    (case kp_Rack_getitem => k_is)
    (case a_all_results => k_is)
    (case l_all_results => k_is)
    (case c_all_results => k_is)
    (case kp_all_results => k_is)
    (case a_parted => k_is)
    (case l_parted => k_is)
    (case c_parted => k_is)
    (case kp_parted => k_is)
    (case at_Settler_is_settled => k_is)
    (case fn_Settler_is_settled => k_is)
    (case l_Settler_is_settled => k_is)
    (case c_Settler_is_settled => k_is)
    (case kp_Settler_is_settled => k_is)
    (case at_Settler_has_good => k_is)
    (case fn_Settler_has_good => k_is)
    (case l_Settler_has_good => k_is)
    (case c_Settler_has_good => k_is)
    (case kp_Settler_has_good => k_is)
    (case at_Settler_init => k_is)
    (case fn_Settler_init => k_is)
    (case l_Settler_init => k_is)
    (case c_Settler_init => k_is)
    (case kp_Settler_init => k_is)
    (case mki_Settler => k_is)
    (case kc_Settler => k_is)
    (case a_fewest_measurings => k_is)
    (case l_fewest_measurings => k_is)
    (case c_fewest_measurings => k_is)
    (case kp_fewest_measurings => k_is)
    (case a_next_measuring => k_is)
    (case l_next_measuring => k_is)
    (case c_next_measuring => k_is)
    (case kp_next_measuring => k_is)
    (case a_law => k_is)
    (case l_law => k_is)
    (case c_law => k_is)
    (case kp_law => k_is)
