import PyProof.Rows.All
import Wide.All
import OpenK.AllK
import Wide.FinOn
import HandS.ForMost
import HandS.Slots
import HandS.SlotsOwn
import HandS.TupAny
import HandS.Conv
import HandS.Rev
import HandS.Zip
import HandS.SortInts
import HandS.Style
import HandS.Flow
import HandS.Deep
import HandS.Exc
import HandS.ExcOwn
import HandS.TryOnly
import HandS.WordsExc
import HandS.Lambda
import KE.KeyNested
import HandS.IsInst
import KE.GoesMore
import HandS.DictComp
import HandS.More
import KE.KRevSl
import HandS.SetFor
import HandS.Star
import PyProof.DictUpdate
import KE.KDictSum
import HandS.Text
import HandS.SortRule
import PyProof.Rows.SortKeyStr
import HandS.DictEq
import PyProof.Rows.StrMeet
import HandS.Iter
import HandS.Wide
import KE.SortData
import KE.DataMinMax
import KE.DataCmp
import PyProof.Claim2Refuses
import HandS.Strs
import HandS.ExcIs
import HandS.ExcField
import HandS.EndOwn
import KE.KExcIs
import KE.KNestM
import KE.KDflt
import KE.KDictKeyed
import HandS.TupLen
import PyProof.TupleOfStr
import HandS.Property
import HandS.ExcInit
import HandS.MakeKwOnly
import KE.KExcSuper
import KE.KExcLine
import HandS.ClsMeth
import HandS.TupMul
import KE.KDictPairs
import HandS.TupSets
import KE.KDictCopyH
import PySem.Challenge.RW_rulerbits_k71_whole_rulers_known_by_thei
set_option Elab.async false
set_option linter.all false
set_option maxRecDepth 100000
set_option maxHeartbeats 4000000
set_option autoImplicit false
namespace RB
open PySem PySem.Spec PyProof.Rows L2
inductive D where
  | non | bl (b : Bool) | int (i : Int) | str (x : Str)
  | tup (xs : List D) | lst (xs : List D)
  | dic (ks : List Key) (xs : List D)
  | ins (C : Addr) (xs : List D)
  | adr (a : Addr)
  | obj (C : Addr) (ns : List Str) (xs : List D)
  | slo (C dx : Addr) (is : List Nat) (xs : List D)
  | xdo (x : Addr) (b : Bool)
  | scr (ns : List Int)
  | tab (q : Str)
  | hob (a : Addr) (os : List (Addr × HO))
  | kd (w : World) (ks xs : List D)
mutual
def nkD : D → NestedKey
  | .int i => .num i
  | .bl b => .num (if b = true then 1 else 0)
  | .str x => .text x
  | .tup ds => .tup (nkDs ds)
  | _ => .none
def nkDs : List D → List NestedKey
  | [] => []
  | d :: ds => nkD d :: nkDs ds
end
abbrev KdE := NestedKey × Addr × V
abbrev KdR : KdE → NestedKey × Addr × Value → Prop := fun x y => y.1 = x.1 ∧ y.2.1 = x.2.1 ∧ RelV x.2.2 y.2.2
def KdAt (w : World) (h : Heap) (a : Addr) (xs : List KdE) : Prop := (a == sysModules) = false ∧ xs.length ≤ sizeLine ∧ (xs.map (·.1)).Nodup ∧
  ∃ (ys : List (NestedKey × Addr × Value)) (o : Obj) (es : Array DictEntry) (ep : Nat), Paired KdR xs ys ∧ h.get? a = some o ∧ o.ExactDict ∧ o.data = .dict es ep ∧ es.toList = ys.map fun y => (⟨y.1.hash w, .ref y.2.1, y.2.2⟩ : DictEntry)
def KdO (w : World) (a : Addr) (xs : List KdE) : HO := .ext fun h => KdAt w h a xs
/-- a slot: unknown, shared (frozen) data, an own mutable object -/
inductive Sl where
  | no | sh (d : D) | own (d : D)
/-- a result: shared data, a fresh object, the object of an own slot -/
inductive Res where
  | sh (d : D) | fr (d : D) | pk (i : Nat)
abbrev Env2 := List Sl
mutual
def Rep (K : PySem.W.Frag) (F : Hp) : D → V → Prop
  | .non, v => v = .non
  | .bl b, v => v = .bl b
  | .int i, v => v = .int i
  | .str x, v => v = .str x
  | .tup ds, v => ∃ a vs, v = .ref a ∧ SqT K F a vs ∧ RepL K F ds vs
  | .lst ds, v => ∃ a vs, v = .ref a ∧ Rd F a (.lst vs) ∧ RepL K F ds vs
  | .dic ks ds, v => ∃ a o vs, v = .ref a ∧ F a = some (.frz o (.dK (ks.zip vs))) ∧ ks.length = ds.length ∧ RepL K F ds vs
  | .ins C ds, v => ∃ a dx vs, v = .ref a ∧ SlX.Slt F a C dx (vs.map some) ∧ RepL K F ds vs
  | .adr a, v => v = .ref a
  | .obj _ _ _, _ => False
  | .slo _ _ _ _, _ => False
  | .xdo _ _, _ => False
  | .tab _, _ => False
  | .hob a os, v => v = .ref a ∧ ∀ p ∈ os, F p.1 = some p.2
  | .kd w ks ds, v => ∃ (a : Addr) (ob : Obj) (es : List KdE), v = .ref a ∧ F a = some (.frz ob (KdO w a es)) ∧ es.map (·.1) = nkDs ks ∧ RepL K F ks (es.map fun e => .ref e.2.1) ∧ RepL K F ds (es.map (·.2.2))
  | .scr ns, v => ∃ a, v = .ref a ∧ SqL K F a (ns.map V.int)
def RepL (K : PySem.W.Frag) (F : Hp) : List D → List V → Prop
  | [], vs => vs = []
  | d :: ds, vs => ∃ v r, vs = v :: r ∧ Rep K F d v ∧ RepL K F ds r
end
abbrev Ex (H H' : Hp) : Prop := ∀ a o, H a = some o → H' a = some o
theorem Ex.refl (H : Hp) : Ex H H := fun _ _ h => h
theorem Ex.trans {A B C : Hp} (x : Ex A B) (y : Ex B C) : Ex A C := fun a o h => y a o (x a o h)
theorem Ex.new {H : Hp} {p : Addr} {o : HO} (h : H p = none) : Ex H (upd H p o) := fun a u e => by
  rw [upd_ne (ne_of_none e h)]; exact e
theorem Ex.rd {F F' : Hp} (e : Ex F F') {a : Addr} {u : HO} (h : Rd F a u) : Rd F' a u := by
  rcases h with h | ⟨o, h⟩
  · exact .inl (e a _ h)
  · exact .inr ⟨o, e a _ h⟩
theorem Ex.sqL {K : PySem.W.Frag} {F F' : Hp} (e : Ex F F') {a : Addr} {xs : List V} (h : SqL K F a xs) : SqL K F' a xs := by
  rcases h with h | h
  · exact .inl (e.rd h)
  · exact .inr h
theorem Ex.sqT {K : PySem.W.Frag} {F F' : Hp} (e : Ex F F') {a : Addr} {xs : List V} (h : SqT K F a xs) : SqT K F' a xs := by
  rcases h with h | h
  · exact .inl (e.rd h)
  · exact .inr h
theorem Ex.slt {F F' : Hp} (e : Ex F F') {a C dx : Addr} {vs : List (Option V)} (h : SlX.Slt F a C dx vs) : SlX.Slt F' a C dx vs := by
  rcases h with ⟨h1, h2⟩ | ⟨h1, h2⟩
  · exact .inl ⟨e _ _ h1, h2⟩
  · exact .inr ⟨e _ _ h1, e _ _ h2⟩
mutual
theorem Rep.mono {K : PySem.W.Frag} {F F' : Hp} (e : Ex F F') : ∀ (d : D) (v : V), Rep K F d v → Rep K F' d v
  | .non, v, h => h
  | .bl b, v, h => h
  | .int i, v, h => h
  | .str x, v, h => h
  | .tup ds, v, h => by
    obtain ⟨a, vs, h1, h2, h3⟩ := h
    exact ⟨a, vs, h1, e.sqT h2, RepL.mono e ds vs h3⟩
  | .lst ds, v, h => by
    obtain ⟨a, vs, h1, h2, h3⟩ := h
    exact ⟨a, vs, h1, e.rd h2, RepL.mono e ds vs h3⟩
  | .dic ks ds, v, h => by
    obtain ⟨a, o, vs, h1, h2, h4, h3⟩ := h
    exact ⟨a, o, vs, h1, e _ _ h2, h4, RepL.mono e ds vs h3⟩
  | .ins C ds, v, h => by
    obtain ⟨a, dx, vs, h1, h2, h3⟩ := h
    exact ⟨a, dx, vs, h1, e.slt h2, RepL.mono e ds vs h3⟩
  | .adr a, v, h => h
  | .obj _ _ _, v, h => h
  | .slo _ _ _ _, v, h => h
  | .xdo _ _, v, h => h
  | .tab _, v, h => h
  | .hob a os, v, h => ⟨h.1, fun p hp => e _ _ (h.2 p hp)⟩
  | .kd w ks ds, v, h => by
    obtain ⟨a, ob, es, h1, h2, h3, h4, h5⟩ := h
    exact ⟨a, ob, es, h1, e _ _ h2, h3, RepL.mono e ks _ h4, RepL.mono e ds _ h5⟩
  | .scr ns, v, h => by
    obtain ⟨a, h1, h2⟩ := h
    exact ⟨a, h1, e.sqL h2⟩
theorem RepL.mono {K : PySem.W.Frag} {F F' : Hp} (e : Ex F F') : ∀ (ds : List D) (vs : List V), RepL K F ds vs → RepL K F' ds vs
  | [], vs, h => h
  | d :: ds, vs, h => by
    obtain ⟨v, r, h1, h2, h3⟩ := h
    exact ⟨v, r, h1, Rep.mono e d v h2, RepL.mono e ds r h3⟩
end
section
variable {K : PySem.W.Frag} {F : Hp}
theorem RepL.length : ∀ {ds : List D} {vs : List V}, RepL K F ds vs → vs.length = ds.length
  | [], vs, h => by cases (show vs = [] from h); rfl
  | d :: ds, vs, h => by
    obtain ⟨v, r, rfl, _, h3⟩ := h
    rw [List.length_cons, List.length_cons, RepL.length h3]
theorem RepL.get : ∀ {ds : List D} {vs : List V} {i : Nat} {d : D}, RepL K F ds vs → ds[i]? = some d → ∃ v, vs[i]? = some v ∧ Rep K F d v
  | [], vs, i, d, h, e => by simp at e
  | d0 :: ds, vs, 0, d, h, e => by
    obtain ⟨v, r, rfl, h2, _⟩ := h
    have : d0 = d := by simpa using e
    subst this
    exact ⟨v, rfl, h2⟩
  | d0 :: ds, vs, i + 1, d, h, e => by
    obtain ⟨v, r, rfl, _, h3⟩ := h
    obtain ⟨u, h1, h2⟩ := RepL.get (i := i) h3 (by simpa using e)
    exact ⟨u, by simpa using h1, h2⟩
theorem RepL.append : ∀ {ds es : List D} {vs us : List V}, RepL K F ds vs → RepL K F es us → RepL K F (ds ++ es) (vs ++ us)
  | [], es, vs, us, h, g => by cases (show vs = [] from h); exact g
  | d :: ds, es, vs, us, h, g => by
    obtain ⟨v, r, rfl, h2, h3⟩ := h
    exact ⟨v, r ++ us, rfl, h2, RepL.append h3 g⟩
theorem RepL.one {d : D} {v : V} (h : Rep K F d v) : RepL K F [d] [v] := ⟨v, [], rfl, h, rfl⟩
theorem RepL.drop : ∀ (n : Nat) {ds : List D} {vs : List V}, RepL K F ds vs → RepL K F (ds.drop n) (vs.drop n)
  | 0, _, _, h => h
  | n + 1, [], vs, h => by cases (show vs = [] from h); exact rfl
  | n + 1, d :: ds, vs, h => by
    obtain ⟨v, r, rfl, h2, h3⟩ := h
    exact RepL.drop n h3
theorem RepL.take : ∀ (n : Nat) {ds : List D} {vs : List V}, RepL K F ds vs → RepL K F (ds.take n) (vs.take n)
  | 0, _, _, h => rfl
  | n + 1, [], vs, h => by cases (show vs = [] from h); exact rfl
  | n + 1, d :: ds, vs, h => by
    obtain ⟨v, r, rfl, h2, h3⟩ := h
    exact ⟨v, r.take n, rfl, h2, RepL.take n h3⟩
theorem RepL.set : ∀ (i : Nat) {ds : List D} {vs : List V} {d : D} {v : V}, RepL K F ds vs → Rep K F d v → RepL K F (ds.set i d) (vs.set i v)
  | i, [], vs, d, v, h, g => by cases (show vs = [] from h); exact rfl
  | 0, d0 :: ds, vs, d, v, h, g => by
    obtain ⟨u, r, rfl, _, h3⟩ := h
    exact ⟨v, r, rfl, g, h3⟩
  | i + 1, d0 :: ds, vs, d, v, h, g => by
    obtain ⟨u, r, rfl, h2, h3⟩ := h
    exact ⟨u, r.set i v, rfl, h2, RepL.set i h3 g⟩
theorem RepL.eraseIdx : ∀ (i : Nat) {ds : List D} {vs : List V}, RepL K F ds vs → RepL K F (ds.eraseIdx i) (vs.eraseIdx i)
  | i, [], vs, h => by cases (show vs = [] from h); exact rfl
  | 0, d0 :: ds, vs, h => by
    obtain ⟨u, r, rfl, _, h3⟩ := h
    exact h3
  | i + 1, d0 :: ds, vs, h => by
    obtain ⟨u, r, rfl, h2, h3⟩ := h
    exact ⟨u, r.eraseIdx i, rfl, h2, RepL.eraseIdx i h3⟩
theorem RepL.reverse : ∀ {ds : List D} {vs : List V}, RepL K F ds vs → RepL K F ds.reverse vs.reverse
  | [], vs, h => by cases (show vs = [] from h); exact rfl
  | d :: ds, vs, h => by
    obtain ⟨v, r, rfl, h2, h3⟩ := h
    rw [List.reverse_cons, List.reverse_cons]
    exact (RepL.reverse h3).append (.one h2)
/-- lists of ints -/
theorem RepL.ints : ∀ {ns : List Int} {vs : List V}, RepL K F (ns.map D.int) vs → vs = ns.map V.int
  | [], vs, h => h
  | n :: ns, vs, h => by
    obtain ⟨v, r, rfl, h2, h3⟩ := h
    cases (show v = .int n from h2)
    rw [RepL.ints h3]; rfl
theorem RepL.of_ints : ∀ (ns : List Int), RepL K F (ns.map D.int) (ns.map V.int)
  | [] => rfl
  | n :: ns => ⟨_, _, rfl, rfl, RepL.of_ints ns⟩
end
/-- what is not frozen as it stands -/
def isDic : D → Bool
  | .lst _ => false
  | .tup _ => false
  | .int _ => false
  | .bl _ => false
  | .str _ => false
  | .non => false
  | .ins _ _ => false
  | .adr _ => false
  | _ => true
/-- the object at p, its parts frozen -/
def Own (K : PySem.W.Frag) (F H : Hp) (p : Addr) : D → Prop
  | .lst ds => ∃ vs, H p = some (.lst vs) ∧ RepL K F ds vs
  | .dic ks ds => ∃ vs, H p = some (.dK (ks.zip vs)) ∧ ks.length = ds.length ∧ RepL K F ds vs
  | .obj C ns ds => ∃ dx vs, H p = some (.ins C dx (ns.zip vs)) ∧ ns.length = ds.length ∧ RepL K F ds vs
  | .slo C dx is ds => (is = [] ∧ ds = [] ∧ H p = some (.ins C dx [])) ∨ ∃ us vs, H p = some (SlX.SlO p C dx us) ∧ is.length = ds.length ∧ RepL K F ds vs ∧ ∀ (j : Nat) (i : Nat) (v : V), is[j]? = some i → vs[j]? = some v → us[i]? = some (some v)
  | .xdo x b => H p = some (if b then .xd [] else .own x)
  | .tab q => ∃ ps : Array Value, H p = some (.tbl ps) ∧ TriplesOk ps.toList ∧ ∀ (pos : Pos) (cv : Value), codeAmong pos ps.toList = some cv → ∃ c, cv = .ref c ∧ F c = some (LamX.CodeO c q)
  | .kd w ks ds => ∃ es : List KdE, H p = some (KdO w p es) ∧ es.map (·.1) = nkDs ks ∧ RepL K F ks (es.map fun e => .ref e.2.1) ∧ RepL K F ds (es.map (·.2.2))
  | _ => False
theorem Own.mono {K : PySem.W.Frag} {F F' H H' : Hp} {p : Addr} {d : D} (e : Ex F F') (k : ∀ o, H p = some o → H' p = some o) (h : Own K F H p d) : Own K F' H' p d := by
  cases d with
  | lst ds => obtain ⟨vs, h1, h2⟩ := h; exact ⟨vs, k _ h1, RepL.mono e _ _ h2⟩
  | dic ks ds => obtain ⟨vs, h1, h3, h2⟩ := h; exact ⟨vs, k _ h1, h3, RepL.mono e _ _ h2⟩
  | obj C ns ds => obtain ⟨dx, vs, h1, h3, h2⟩ := h; exact ⟨dx, vs, k _ h1, h3, RepL.mono e _ _ h2⟩
  | slo C dx is ds =>
    rcases h with ⟨h1, h2, h3⟩ | ⟨us, vs, h1, h2, h3, h4⟩
    · exact .inl ⟨h1, h2, k _ h3⟩
    · exact .inr ⟨us, vs, k _ h1, h2, RepL.mono e _ _ h3, h4⟩
  | xdo x b => exact k _ h
  | kd w ks ds => obtain ⟨es, h1, h2, h3, h4⟩ := h; exact ⟨es, k _ h1, h2, RepL.mono e _ _ h3, RepL.mono e _ _ h4⟩
  | tab q => obtain ⟨ps, h1, h2, h3⟩ := h; exact ⟨ps, k _ h1, h2, fun pos cv hc => let ⟨c, e1, e2⟩ := h3 pos cv hc; ⟨c, e1, e _ _ e2⟩⟩
  | _ => exact h.elim
theorem Own.there {K : PySem.W.Frag} {F H : Hp} {p : Addr} {d : D} (h : Own K F H p d) : ∃ o, H p = some o := by
  cases d with
  | lst ds => obtain ⟨vs, h1, h2⟩ := h; exact ⟨_, h1⟩
  | dic ks ds => obtain ⟨vs, h1, h3, h2⟩ := h; exact ⟨_, h1⟩
  | obj C ns ds => obtain ⟨dx, vs, h1, h3, h2⟩ := h; exact ⟨_, h1⟩
  | slo C dx is ds =>
    rcases h with ⟨h1, h2, h3⟩ | ⟨us, vs, h1, h2, h3, h4⟩
    · exact ⟨_, h3⟩
    · exact ⟨_, h1⟩
  | xdo x b => exact ⟨_, h⟩
  | tab q => obtain ⟨ps, h1, _⟩ := h; exact ⟨_, h1⟩
  | kd w ks ds => obtain ⟨es, h1, _⟩ := h; exact ⟨_, h1⟩
  | _ => exact h.elim
/-- a view: frozen, or an object whose parts are -/
def Vw (K : PySem.W.Frag) (F H : Hp) (d : D) (v : V) : Prop := Rep K F d v ∨ ∃ p, v = .ref p ∧ Own K F H p d
theorem Vw.lst {K : PySem.W.Frag} {F H : Hp} (e : Ex F H) {ds : List D} {v : V} (h : Vw K F H (.lst ds) v) : ∃ a vs, v = .ref a ∧ Rd H a (.lst vs) ∧ RepL K F ds vs := by
  rcases h with ⟨a, vs, h1, h2, h3⟩ | ⟨p, h1, vs, h2, h3⟩
  · exact ⟨a, vs, h1, e.rd h2, h3⟩
  · exact ⟨p, vs, h1, .inl h2, h3⟩
theorem Vw.tup {K : PySem.W.Frag} {F H : Hp} (e : Ex F H) {ds : List D} {v : V} (h : Vw K F H (.tup ds) v) : ∃ a vs, v = .ref a ∧ SqT K H a vs ∧ RepL K F ds vs := by
  rcases h with ⟨a, vs, h1, h2, h3⟩ | ⟨p, h1, h2⟩
  · exact ⟨a, vs, h1, e.sqT h2, h3⟩
  · exact h2.elim
theorem Vw.dic {K : PySem.W.Frag} {F H : Hp} (e : Ex F H) {ks : List Key} {ds : List D} {v : V} (h : Vw K F H (.dic ks ds) v) : ∃ a vs, v = .ref a ∧ Rd H a (.dK (ks.zip vs)) ∧ ks.length = ds.length ∧ RepL K F ds vs := by
  rcases h with ⟨a, o, vs, h1, h2, h4, h3⟩ | ⟨p, h1, vs, h2, h4, h3⟩
  · exact ⟨a, vs, h1, .inr ⟨o, e _ _ h2⟩, h4, h3⟩
  · exact ⟨p, vs, h1, .inl h2, h4, h3⟩
theorem Vw.int {K : PySem.W.Frag} {F H : Hp} {i : Int} {v : V} (h : Vw K F H (.int i) v) : v = .int i := by
  rcases h with h | ⟨p, h1, h2⟩
  · exact h
  · exact h2.elim
theorem Vw.bl {K : PySem.W.Frag} {F H : Hp} {i : Bool} {v : V} (h : Vw K F H (.bl i) v) : v = .bl i := by
  rcases h with h | ⟨p, h1, h2⟩
  · exact h
  · exact h2.elim
theorem Vw.str {K : PySem.W.Frag} {F H : Hp} {i : Str} {v : V} (h : Vw K F H (.str i) v) : v = .str i := by
  rcases h with h | ⟨p, h1, h2⟩
  · exact h
  · exact h2.elim
theorem Vw.non {K : PySem.W.Frag} {F H : Hp} {v : V} (h : Vw K F H .non v) : v = .non := by
  rcases h with h | ⟨p, h1, h2⟩
  · exact h
  · exact h2.elim
theorem Vw.ins {K : PySem.W.Frag} {F H : Hp} (e : Ex F H) {C : Addr} {ds : List D} {v : V} (h : Vw K F H (.ins C ds) v) : ∃ a dx vs, v = .ref a ∧ SlX.Slt H a C dx (vs.map some) ∧ RepL K F ds vs := by
  rcases h with ⟨a, dx, vs, h1, h2, h3⟩ | ⟨p, h1, h2⟩
  · exact ⟨a, dx, vs, h1, e.slt h2, h3⟩
  · exact h2.elim
/-- the open region: objects that are known by their address, as data -/
abbrev GD := Addr → Option D
def updG (G : GD) (a : Addr) (d : D) : GD := fun b => if b = a then some d else G b
theorem updG_same {G : GD} {a : Addr} {d : D} : updG G a d a = some d := by unfold updG; rw [if_pos rfl]
theorem updG_ne {G : GD} {a b : Addr} {d : D} (h : b ≠ a) : updG G a d b = G b := by unfold updG; rw [if_neg h]
/-- F0: what was frozen at the entry; T: what others hold; F: frozen; G: the open region; H: all -/
structure Bas (K : PySem.W.Frag) (F0 T F : Hp) (G : GD) (H : Hp) : Prop where
  ff : Ex F0 F
  ft : ∀ a o, F a = some o → F0 a = some o ∨ T a = none
  fh : Ex F H
  gh : ∀ a d, G a = some d → Own K F H a d
  fg : ∀ a o, G a = some o → F a = none
  gt : ∀ a o, G a = some o → T a = none
  tk : Ex T H
def SlotOk (K : PySem.W.Frag) (T F : Hp) (G : GD) (H : Hp) : Sl → Option (Option V) → Prop
  | .no, _ => True
  | .sh d, x => ∃ v, x = some (some v) ∧ Rep K F d v
  | .own d, x => ∃ p, x = some (some (.ref p)) ∧ Own K F H p d ∧ F p = none ∧ G p = none ∧ T p = none
structure Sta (K : PySem.W.Frag) (F0 T F : Hp) (G : GD) (H : Hp) (r : Env2) (σ : L2.St) : Prop where
  bas : Bas K F0 T F G H
  len : r.length = σ.length
  sl : ∀ (i : Nat) (s : Sl), r[i]? = some s → SlotOk K T F G H s σ[i]?
  ap : ∀ (i j : Nat) (d e : D), i ≠ j → r[i]? = some (.own d) → r[j]? = some (.own e) → σ[i]? ≠ σ[j]?
def ResOk (K : PySem.W.Frag) (T F : Hp) (G : GD) (H : Hp) (r : Env2) (σ : L2.St) : Res → V → Prop
  | .sh d, v => Rep K F d v
  | .fr d, v => ∃ p, v = .ref p ∧ Own K F H p d ∧ F p = none ∧ G p = none ∧ T p = none ∧ ∀ (i : Nat) (e : D), r[i]? = some (.own e) → σ[i]? ≠ some (some (.ref p))
  | .pk i, v => σ[i]? = some (some v) ∧ ∃ d, r[i]? = some (.own d)
/-- the view of a result -/
def vw (r : Env2) : Res → Option D
  | .sh d => some d
  | .fr d => if isDic d then none else some d
  | .pk i => match r[i]? with
    | some (.own d) => some d
    | some (.sh d) => some d
    | _ => none
/-- the view of a result, or of an object of the open region -/
def VwR (r : Env2) (G : GD) (x : Res) (d : D) : Prop := vw r x = some d ∨ ∃ a, x = .sh (.adr a) ∧ G a = some d
def RtOk (K : PySem.W.Frag) (T F : Hp) (G : GD) (H : Hp) : Res → V → Prop
  | .sh d, v => Rep K F d v
  | .fr d, v => ∃ p, v = .ref p ∧ Own K F H p d ∧ F p = none ∧ G p = none ∧ T p = none
  | .pk _, _ => False
section
variable {K : PySem.W.Frag} {F0 T F : Hp} {G : GD} {H : Hp} {r : Env2} {σ : L2.St}
theorem Sta.slot (S : Sta K F0 T F G H r σ) {i : Nat} {d : D} (h : r[i]? = some (.sh d)) : ∃ v, σ[i]? = some (some v) ∧ Rep K F d v := S.sl i _ h
theorem Sta.ownS (S : Sta K F0 T F G H r σ) {i : Nat} {d : D} (h : r[i]? = some (.own d)) : ∃ p, σ[i]? = some (some (.ref p)) ∧ Own K F H p d ∧ F p = none ∧ G p = none ∧ T p = none := S.sl i _ h
theorem Bas.gh' (B : Bas K F0 T F G H) {a : Addr} {d : D} (h : G a = some d) : ∃ o, H a = some o := (B.gh a d h).there
theorem Bas.freshF (B : Bas K F0 T F G H) {p : Addr} (hp : H p = none) : F p = none ∧ G p = none ∧ T p = none := by
  refine ⟨?_, ?_, ?_⟩
  · cases e : F p with
    | none => rfl
    | some u => rw [B.fh p u e] at hp; cases hp
  · cases e : G p with
    | none => rfl
    | some u => obtain ⟨o, ho⟩ := B.gh' e; rw [ho] at hp; cases hp
  · cases e : T p with
    | none => rfl
    | some u => rw [B.tk p u e] at hp; cases hp
/-- the open objects, while F and H grow -/
theorem Bas.gmono (B : Bas K F0 T F G H) {F' H' : Hp} (ef : Ex F F') (eh : ∀ a o, G a ≠ none → H a = some o → H' a = some o) : ∀ a d, G a = some d → Own K F' H' a d := fun a d h =>
  (B.gh a d h).mono ef fun o ho => eh a o (by rw [h]; exact fun z => nomatch z) ho
/-- the frozen part grows by a new object, others keep -/
theorem Bas.newF (B : Bas K F0 T F G H) {p : Addr} {o : HO} (hp : H p = none) : Bas K F0 T (upd F p o) G (upd H p o) := by
  obtain ⟨fp, gp, tp⟩ := B.freshF hp
  refine ⟨B.ff.trans (Ex.new fp), fun a o' e => ?_, fun a o' e => ?_, B.gmono (Ex.new fp) fun a u _ h => Ex.new hp a u h, fun a o' e => ?_, B.gt, B.tk.trans (Ex.new hp)⟩
  · by_cases h : a = p
    · subst h; exact .inr tp
    · rw [upd_ne h] at e; exact B.ft a o' e
  · by_cases h : a = p
    · subst h; rw [upd_same] at e ⊢; exact e
    · rw [upd_ne h] at e ⊢; exact B.fh a o' e
  · by_cases h : a = p
    · subst h; rw [gp] at e; cases e
    · rw [upd_ne h]; exact B.fg a o' e
/-- a new object that is not frozen -/
theorem Bas.newH (B : Bas K F0 T F G H) {p : Addr} {o : HO} (hp : H p = none) : Bas K F0 T F G (upd H p o) :=
  ⟨B.ff, B.ft, B.fh.trans (Ex.new hp), B.gmono (Ex.refl _) fun a u _ h => Ex.new hp a u h, B.fg, B.gt, B.tk.trans (Ex.new hp)⟩
/-- an object that nobody else knows is written -/
theorem Bas.put (B : Bas K F0 T F G H) {p : Addr} {o : HO} (h1 : F p = none) (h2 : G p = none) (h3 : T p = none) : Bas K F0 T F G (upd H p o) := by
  refine ⟨B.ff, B.ft, fun a u e => ?_, B.gmono (Ex.refl _) fun a u hg e => ?_, B.fg, B.gt, fun a u e => ?_⟩
  · rw [upd_ne (ne_of_none e h1)]; exact B.fh a u e
  · rw [upd_ne (fun z => hg (by rw [z]; exact h2))]; exact e
  · rw [upd_ne (ne_of_none e h3)]; exact B.tk a u e
theorem Bas.frz (B : Bas K F0 T F G H) {p : Addr} {o : HO} (ho : H p = some o) (h1 : F p = none) (h2 : G p = none) (h3 : T p = none) : Bas K F0 T (upd F p o) G H := by
  refine ⟨B.ff.trans (Ex.new h1), fun a u e => ?_, fun a u e => ?_, B.gmono (Ex.new h1) fun _ _ _ h => h, fun a u e => ?_, B.gt, B.tk⟩
  · by_cases h : a = p
    · subst h; exact .inr h3
    · rw [upd_ne h] at e; exact B.ft a u e
  · by_cases h : a = p
    · subst h; rw [upd_same] at e; cases e; exact ho
    · rw [upd_ne h] at e; exact B.fh a u e
  · by_cases h : a = p
    · subst h; rw [h2] at e; cases e
    · rw [upd_ne h]; exact B.fg a u e
/-- the slots stand when F, H grow and the own objects keep -/
theorem Sta.grow {F' : Hp} {G' : GD} {H' : Hp} {F0' T' : Hp} (S : Sta K F0 T F G H r σ) (B : Bas K F0' T' F' G' H') (ef : Ex F F')
    (ko : ∀ p, F p = none → G p = none → T p = none → (∃ o, H p = some o) → (∀ o, H p = some o → H' p = some o) ∧ F' p = none ∧ G' p = none ∧ T' p = none) : Sta K F0' T' F' G' H' r σ := by
  refine ⟨B, S.len, fun i s e => ?_, S.ap⟩
  have h := S.sl i s e
  cases s with
  | no => trivial
  | sh d => obtain ⟨v, h1, h2⟩ := h; exact ⟨v, h1, Rep.mono ef _ _ h2⟩
  | own d =>
    obtain ⟨p, h1, h2, h3, h4, h5⟩ := h
    obtain ⟨k1, k2, k3, k4⟩ := ko p h3 h4 h5 h2.there
    exact ⟨p, h1, h2.mono ef k1, k2, k3, k4⟩
theorem Sta.newF (S : Sta K F0 T F G H r σ) {p : Addr} {o : HO} (hp : H p = none) : Sta K F0 T (upd F p o) G (upd H p o) r σ := by
  refine S.grow (S.bas.newF hp) (Ex.new (S.bas.freshF hp).1) fun q h1 h2 h3 ⟨u, hu⟩ => ?_
  have hq : q ≠ p := fun z => by subst z; rw [hp] at hu; cases hu
  exact ⟨fun o' e => by rw [upd_ne hq]; exact e, by rw [upd_ne hq]; exact h1, h2, h3⟩
theorem Sta.newH (S : Sta K F0 T F G H r σ) {p : Addr} {o : HO} (hp : H p = none) : Sta K F0 T F G (upd H p o) r σ := by
  refine S.grow (S.bas.newH hp) (Ex.refl _) fun q h1 h2 h3 ⟨u, hu⟩ => ?_
  have hq : q ≠ p := fun z => by subst z; rw [hp] at hu; cases hu
  exact ⟨fun o' e => by rw [upd_ne hq]; exact e, h1, h2, h3⟩
theorem Sta.freshR (S : Sta K F0 T F G H r σ) {p : Addr} (hp : H p = none) : ∀ (i : Nat) (e : D), r[i]? = some (.own e) → σ[i]? ≠ some (some (.ref p)) := fun i e he z => by
  obtain ⟨q, h1, h2, _⟩ := S.ownS he
  rw [z] at h1
  cases h1
  obtain ⟨o, ho⟩ := h2.there
  rw [hp] at ho; cases ho
/-- a slot is stored -/
theorem Sta.set (S : Sta K F0 T F G H r σ) {i : Nat} {s : Sl} {v : V} (hi : i < r.length) (h : SlotOk K T F G H s (some (some v))) (ha : ∀ d, s = .own d → ∀ (j : Nat) (e : D), r[j]? = some (.own e) → j ≠ i → σ[j]? ≠ some (some v)) : Sta K F0 T F G H (r.set i s) (σ.set i (some v)) := by
  have hiσ : i < σ.length := by rw [← S.len]; exact hi
  refine ⟨S.bas, by rw [List.length_set, List.length_set]; exact S.len, fun j s' e => ?_, fun j k d e hjk ej ek => ?_⟩
  · by_cases hj : i = j
    · subst hj
      rw [List.getElem?_set_self hi] at e
      cases e
      rw [List.getElem?_set_self hiσ]
      exact h
    · rw [List.getElem?_set_ne hj] at e ⊢
      exact S.sl j s' e
  · by_cases hj : i = j
    · subst hj
      rw [List.getElem?_set_self hi] at ej
      cases ej
      rw [List.getElem?_set_ne hjk] at ek
      rw [List.getElem?_set_self hiσ, List.getElem?_set_ne hjk]
      exact fun z => ha d rfl k e ek (Ne.symm hjk) z.symm
    · rw [List.getElem?_set_ne hj] at ej
      by_cases hk : i = k
      · subst hk
        rw [List.getElem?_set_self hi] at ek
        cases ek
        rw [List.getElem?_set_self hiσ, List.getElem?_set_ne hj]
        exact ha e rfl j d ej hjk
      · rw [List.getElem?_set_ne hk] at ek
        rw [List.getElem?_set_ne hj, List.getElem?_set_ne hk]
        exact S.ap j k d e hjk ej ek
/-- knowledge about slots is forgotten -/
inductive Wk : Env2 → Env2 → Prop
  | nil : Wk [] []
  | no {s : Sl} {a b : Env2} (h : Wk a b) : Wk (s :: a) (.no :: b)
  | eq {s : Sl} {a b : Env2} (h : Wk a b) : Wk (s :: a) (s :: b)
theorem Wk.get {a b : Env2} (w : Wk a b) : ∀ (i : Nat) (s : Sl), b[i]? = some s → s = .no ∨ a[i]? = some s := by
  induction w with
  | nil => intro i s h; simp at h
  | no _ ih =>
    intro i s h
    cases i with
    | zero => left; simpa using h.symm
    | succ i => simpa using ih i s (by simpa using h)
  | eq _ ih =>
    intro i s h
    cases i with
    | zero => right; simpa using h
    | succ i => simpa using ih i s (by simpa using h)
theorem Wk.len {a b : Env2} (w : Wk a b) : b.length = a.length := by
  induction w with
  | nil => rfl
  | no _ ih => simp [ih]
  | eq _ ih => simp [ih]
theorem Wk.refl : ∀ (a : Env2), Wk a a
  | [] => .nil
  | _ :: a => .eq (Wk.refl a)
theorem Sta.weak {r' : Env2} (S : Sta K F0 T F G H r σ) (w : Wk r r') : Sta K F0 T F G H r' σ := by
  refine ⟨S.bas, by rw [w.len]; exact S.len, fun i s e => ?_, fun i j d e hij ei ej => ?_⟩
  · rcases w.get i s e with z | z
    · subst z; trivial
    · exact S.sl i s z
  · rcases w.get i _ ei with z | z
    · cases z
    · rcases w.get j _ ej with y | y
      · cases y
      · exact S.ap i j d e hij z y
/-- an own slot is frozen -/
theorem Sta.frzSlot (S : Sta K F0 T F G H r σ) {i : Nat} {d : D} (hD : isDic d = false) (h : r[i]? = some (.own d)) : ∃ F', Ex F F' ∧ Sta K F0 T F' G H (r.set i (.sh d)) σ ∧ ∃ v, σ[i]? = some (some v) ∧ Rep K F' d v := by
  obtain ⟨p, h1, h2, h3, h4, h5⟩ := S.ownS h
  obtain ⟨o, ho⟩ := h2.there
  have hi : i < r.length := (List.getElem?_eq_some_iff.mp h).1
  have ef : Ex F (upd F p o) := Ex.new h3
  have rp : Rep K (upd F p o) d (.ref p) := by
    cases d with
    | lst ds =>
      obtain ⟨vs, q1, q2⟩ := h2
      rw [ho] at q1; cases q1
      exact ⟨p, vs, rfl, .inl upd_same, RepL.mono ef _ _ q2⟩
    | dic ks ds => cases hD
    | obj C ns ds => cases hD
    | slo C dx is ds => cases hD
    | xdo x b => cases hD
    | tab q => cases hD
    | kd w ks ds => cases hD
    | _ => exact h2.elim
  refine ⟨upd F p o, ef, ⟨S.bas.frz ho h3 h4 h5, by rw [List.length_set]; exact S.len, fun j s e => ?_, fun j k d' e' hjk ej ek => ?_⟩, .ref p, h1, rp⟩
  · by_cases hj : i = j
    · subst hj
      rw [List.getElem?_set_self hi] at e
      cases e
      exact ⟨_, h1, rp⟩
    · rw [List.getElem?_set_ne hj] at e
      have q := S.sl j s e
      cases s with
      | no => trivial
      | sh d' => obtain ⟨v, q1, q2⟩ := q; exact ⟨v, q1, Rep.mono ef _ _ q2⟩
      | own d' =>
        obtain ⟨p', q1, q2, q3, q4, q5⟩ := q
        have hpp : p' ≠ p := fun z => by
          subst z
          exact S.ap i j d d' hj h e (h1.trans q1.symm)
        exact ⟨p', q1, q2.mono ef fun _ z => z, by rw [upd_ne hpp]; exact q3, q4, q5⟩
  · have hj : i ≠ j := fun z => by
      subst z
      rw [List.getElem?_set_self hi] at ej; cases ej
    have hk : i ≠ k := fun z => by
      subst z
      rw [List.getElem?_set_self hi] at ek; cases ek
    rw [List.getElem?_set_ne hj] at ej
    rw [List.getElem?_set_ne hk] at ek
    exact S.ap j k d' e' hjk ej ek
/-- a fresh result is frozen -/
theorem Sta.frzRes (S : Sta K F0 T F G H r σ) {d : D} {v : V} (hD : isDic d = false) (h : ResOk K T F G H r σ (.fr d) v) : ∃ F', Ex F F' ∧ Sta K F0 T F' G H r σ ∧ Rep K F' d v := by
  obtain ⟨p, rfl, h2, h3, h4, h5, h6⟩ := h
  obtain ⟨o, ho⟩ := h2.there
  have ef : Ex F (upd F p o) := Ex.new h3
  have rp : Rep K (upd F p o) d (.ref p) := by
    cases d with
    | lst ds =>
      obtain ⟨vs, q1, q2⟩ := h2
      rw [ho] at q1; cases q1
      exact ⟨p, vs, rfl, .inl upd_same, RepL.mono ef _ _ q2⟩
    | dic ks ds => cases hD
    | obj C ns ds => cases hD
    | slo C dx is ds => cases hD
    | xdo x b => cases hD
    | tab q => cases hD
    | kd w ks ds => cases hD
    | _ => exact h2.elim
  refine ⟨upd F p o, ef, ⟨S.bas.frz ho h3 h4 h5, S.len, fun j s e => ?_, S.ap⟩, rp⟩
  have q := S.sl j s e
  cases s with
  | no => trivial
  | sh d' => obtain ⟨v, q1, q2⟩ := q; exact ⟨v, q1, Rep.mono ef _ _ q2⟩
  | own d' =>
    obtain ⟨p', q1, q2, q3, q4, q5⟩ := q
    have hpp : p' ≠ p := fun z => by
      subst z
      exact h6 j d' e q1
    exact ⟨p', q1, q2.mono ef fun _ z => z, by rw [upd_ne hpp]; exact q3, q4, q5⟩
/-- the view of a result -/
theorem Sta.view (S : Sta K F0 T F G H r σ) {x : Res} {v : V} {d : D} (h : ResOk K T F G H r σ x v) (e : vw r x = some d) : Vw K F H d v := by
  cases x with
  | sh d' => cases e; exact .inl h
  | fr d' =>
    have e' : (if isDic d' then none else some d') = some d := e
    split at e'
    · cases e'
    · cases e'; obtain ⟨p, h1, h2, _⟩ := h; exact .inr ⟨p, h1, h2⟩
  | pk i =>
    obtain ⟨h1, d', h2⟩ := h
    have e' : (match r[i]? with | some (.own d) => some d | some (.sh d) => some d | _ => none) = some d := e
    rw [h2] at e'
    cases e'
    obtain ⟨p, q1, q2, _⟩ := S.ownS h2
    rw [h1] at q1
    cases q1
    exact .inr ⟨p, rfl, q2⟩
theorem Sta.viewR (S : Sta K F0 T F G H r σ) {x : Res} {v : V} {d : D} (h : ResOk K T F G H r σ x v) (e : VwR r G x d) : Vw K F H d v := by
  rcases e with e | ⟨a, rfl, hG⟩
  · exact S.view h e
  · cases (show v = .ref a from h)
    exact .inr ⟨a, rfl, S.bas.gh _ _ hG⟩
end
def Run (X : Cx) (e : Expr) : TE := fun σ H Q => ∀ (pins : List (Addr × Obj)) (s : Shared), Inv X pins σ H s → wpAny (model X.prog X.w) X.A (eval e X.env) (EP X pins σ Q) X.xe s
def RunT (X : Cx) (e : Expr) : TT := fun σ H Q => ∀ (pins : List (Addr × Obj)) (s : Shared), Inv X pins σ H s → wpAny (model X.prog X.w) X.A (isTrue e X.env (eval e X.env)) (TP X pins σ Q) X.xe s
def RunW (X : Cx) (e : Expr) : TT := fun σ H Q => ∀ (whole : Sem Value) (pins : List (Addr × Obj)) (s : Shared), Inv X pins σ H s → wpAny (model X.prog X.w) X.A (isTrue e X.env whole) (TP X pins σ Q) X.xe s
def RunA (X : Cx) (es : List Expr) : TA := fun σ H Q => ∀ (pos : Pos) (pins : List (Addr × Obj)) (s : Shared), Inv X pins σ H s → wpAny (model X.prog X.w) X.A (spliced (backTo pos (starEach es X.env))) (AP X pins σ Q) X.xe s
def RunS (X : Cx) (st : Stmt) : TS := fun D σ H => ∀ (pins : List (Addr × Obj)) (s : Shared), Inv X pins σ H s → wpAny (model X.prog X.w) X.A (exec st X.env) (SP X pins D) X.xe s
def RunB (X : Cx) (st : List Stmt) : TS := fun D σ H => ∀ (pins : List (Addr × Obj)) (s : Shared), Inv X pins σ H s → wpAny (model X.prog X.w) X.A (execs st X.env) (SP X pins D) X.xe s
section
variable {X : Cx} {e : Expr} {es : List Expr} {st : Stmt} {sts : List Stmt} {σ : L2.St} {H : Hp}
theorem peR : PE X e (Run X e) := ⟨fun pins s _ _ _ I h => h pins s I⟩
theorem ptR : PT X e (RunT X e) := ⟨fun pins s _ _ _ I h => h pins s I⟩
theorem pwR : PW X e (RunW X e) := ⟨fun w pins s _ _ _ I h => h w pins s I⟩
theorem paR : PA X es (RunA X es) := ⟨fun pos pins s _ _ _ I h => h pos pins s I⟩
theorem psR : PS X st (RunS X st) := ⟨fun pins s _ _ _ I h => h pins s I⟩
theorem pbR : PSs X sts (RunB X sts) := ⟨fun pins s _ _ _ I h => h pins s I⟩
theorem Run.of {t : TE} {Q : VK} (h : PE X e t) (q : t σ H Q) : Run X e σ H Q := fun pins s I => h.run pins s σ H Q I q
theorem RunT.of {t : TT} {Q : Bool → Hp → Prop} (h : PT X e t) (q : t σ H Q) : RunT X e σ H Q := fun pins s I => h.run pins s σ H Q I q
theorem RunW.of {t : TT} {Q : Bool → Hp → Prop} (h : PW X e t) (q : t σ H Q) : RunW X e σ H Q := fun w pins s I => h.run w pins s σ H Q I q
theorem RunA.of {t : TA} {Q : List V → Hp → Prop} (h : PA X es t) (q : t σ H Q) : RunA X es σ H Q := fun pos pins s I => h.run pos pins s σ H Q I q
theorem RunS.of {t : TS} {D : Ends} (h : PS X st t) (q : t D σ H) : RunS X st D σ H := fun pins s I => h.run pins s σ H D I q
theorem RunB.of {t : TS} {D : Ends} (h : PSs X sts t) (q : t D σ H) : RunB X sts D σ H := fun pins s I => h.run pins s σ H D I q
theorem Run.mono {Q Q' : VK} (h : Run X e σ H Q) (k : ∀ v H', Q v H' → Q' v H') : Run X e σ H Q' := fun pins s I =>
  wpAny_mono (h pins s I) (fun _ _ ⟨v, H', I', r, q⟩ => ⟨v, H', I', r, k v H' q⟩) fun _ _ x => x
theorem RunT.mono {Q Q' : Bool → Hp → Prop} (h : RunT X e σ H Q) (k : ∀ v H', Q v H' → Q' v H') : RunT X e σ H Q' := fun pins s I =>
  wpAny_mono (h pins s I) (fun _ _ ⟨H', I', q⟩ => ⟨H', I', k _ H' q⟩) fun _ _ x => x
theorem RunA.mono {Q Q' : List V → Hp → Prop} (h : RunA X es σ H Q) (k : ∀ v H', Q v H' → Q' v H') : RunA X es σ H Q' := fun pos pins s I =>
  wpAny_mono (h pos pins s I) (fun _ _ ⟨vs, H', I', r, q⟩ => ⟨vs, H', I', r, k _ H' q⟩) fun _ _ x => x
theorem SP.mono {pins : List (Addr × Obj)} {D D' : Ends} {f : Flow} {s : Shared} (h : SP X pins D f s) (k1 : ∀ σ H, D.nx σ H → D'.nx σ H) (k2 : ∀ v H, D.rt v H → D'.rt v H) (k3 : ∀ σ H, D.bk σ H → D'.bk σ H) (k4 : ∀ σ H, D.ct σ H → D'.ct σ H) : SP X pins D' f s := by
  cases f with
  | next => obtain ⟨a, b, c, d⟩ := h; exact ⟨a, b, c, k1 _ _ d⟩
  | brk => obtain ⟨a, b, c, d⟩ := h; exact ⟨a, b, c, k3 _ _ d⟩
  | cont => obtain ⟨a, b, c, d⟩ := h; exact ⟨a, b, c, k4 _ _ d⟩
  | ret u => obtain ⟨v, a, b, c, r, d⟩ := h; exact ⟨v, a, b, c, r, k2 _ _ d⟩
theorem RunS.mono {D D' : Ends} (h : RunS X st D σ H) (k1 : ∀ σ H, D.nx σ H → D'.nx σ H) (k2 : ∀ v H, D.rt v H → D'.rt v H) (k3 : ∀ σ H, D.bk σ H → D'.bk σ H) (k4 : ∀ σ H, D.ct σ H → D'.ct σ H) : RunS X st D' σ H := fun pins s I =>
  wpAny_mono (h pins s I) (fun _ _ q => SP.mono q k1 k2 k3 k4) fun _ _ x => x
theorem RunB.mono {D D' : Ends} (h : RunB X sts D σ H) (k1 : ∀ σ H, D.nx σ H → D'.nx σ H) (k2 : ∀ v H, D.rt v H → D'.rt v H) (k3 : ∀ σ H, D.bk σ H → D'.bk σ H) (k4 : ∀ σ H, D.ct σ H → D'.ct σ H) : RunB X sts D' σ H := fun pins s I =>
  wpAny_mono (h pins s I) (fun _ _ q => SP.mono q k1 k2 k3 k4) fun _ _ x => x
end
structure Exn where
  cls : Value
  fs : List (Str × D)
structure Cy extends L2.Cx where
  F0 : Hp
  T : Hp
  QX : Exn → Env2 → GD → Prop
instance : Coe Cy L2.Cx := ⟨Cy.toCx⟩
instance : CoeHead Cy L2.Cx := ⟨Cy.toCx⟩
structure Lk (X : Cy) (F0 T : Hp) : Prop where
  t : Ex X.T T
  f : Ex X.F0 F0
  ft : ∀ a o, F0 a = some o → X.F0 a = some o ∨ X.T a = none
theorem none_of {A B : Hp} (e : Ex A B) {a : Addr} (h : B a = none) : A a = none := by
  cases q : A a with
  | none => rfl
  | some o => rw [e a o q] at h; cases h
theorem Lk.base {X : Cy} {F0 T F : Hp} {G : GD} {H : Hp} (lk : Lk X F0 T) (B : Bas X.K F0 T F G H) : Lk X F T :=
  ⟨lk.t, lk.f.trans B.ff, fun a o h => (B.ft a o h).elim (fun z => lk.ft a o z) fun z => .inr (none_of lk.t z)⟩
theorem Lk.ext {X : Cy} {F0 T T' : Hp} (lk : Lk X F0 T) (e : Ex T T') : Lk X F0 T' := ⟨lk.t.trans e, lk.f, lk.ft⟩
theorem Lk.bas {X : Cy} {K : PySem.W.Frag} {F0 T F : Hp} {G : GD} {H : Hp} (lk : Lk X F0 T) (B : Bas K F0 T F G H) : Bas K X.F0 X.T F G H :=
  ⟨lk.f.trans B.ff, fun a o h => (B.ft a o h).elim (fun z => lk.ft a o z) fun z => .inr (none_of lk.t z), B.fh, B.gh, B.fg, fun a o h => none_of lk.t (B.gt a o h), lk.t.trans B.tk⟩
theorem Lk.sta {X : Cy} {K : PySem.W.Frag} {F0 T F : Hp} {G : GD} {H : Hp} {r : Env2} {σ : L2.St} (lk : Lk X F0 T) (S : Sta K F0 T F G H r σ) : Sta K X.F0 X.T F G H r σ := by
  refine ⟨lk.bas S.bas, S.len, fun i s e => ?_, S.ap⟩
  have h := S.sl i s e
  cases s with
  | no => trivial
  | sh d => exact h
  | own d =>
    obtain ⟨p, h1, h2, h3, h4, h5⟩ := h
    exact ⟨p, h1, h2, h3, h4, none_of lk.t h5⟩
/-- an exception (its class, its dict) as data -/
def ExOk (K : PySem.W.Frag) (F : Hp) (cls : Value) (d : Option Addr) (x : Exn) : Prop :=
  x.cls = cls ∧ ((d = none ∧ x.fs = []) ∨ ∃ a vs, d = some a ∧ F a = some (.xd ((x.fs.map (·.1)).zip vs)) ∧ RepL K F (x.fs.map (·.2)) vs)
theorem ExOk.mono {K : PySem.W.Frag} {F F' : Hp} {cls : Value} {d : Option Addr} {x : Exn} (e : Ex F F') (h : ExOk K F cls d x) : ExOk K F' cls d x := by
  obtain ⟨h1, ⟨h2, h3⟩ | ⟨a, vs, h2, h3, h4⟩⟩ := h
  · exact ⟨h1, .inl ⟨h2, h3⟩⟩
  · exact ⟨h1, .inr ⟨a, vs, h2, e _ _ h3, RepL.mono e _ _ h4⟩⟩
/-- the wish of a context -/
def Cy.WX (X : Cy) : L2.WX := fun cls d σ H => ∃ r G F x, Sta X.K X.F0 X.T F G H r σ ∧ ExOk X.K F cls d x ∧ X.QX x r G
def Cy.Tk (X : Cy) : Prop := L2.Takes X.toCx X.WX
def PostE (K : PySem.W.Frag) (F0 T F : Hp) (σ : L2.St) (Q : Res → Env2 → GD → Prop) : VK := fun v H' =>
  ∃ x r' G' F', Ex F F' ∧ Sta K F0 T F' G' H' r' σ ∧ ResOk K T F' G' H' r' σ x v ∧ Q x r' G'
def WE (X : Cy) (e : Expr) (r : Env2) (G : GD) (Q : Res → Env2 → GD → Prop) : Prop :=
  ∀ (F0 T F H : Hp) (σ : L2.St), Lk X F0 T → Sta X.K F0 T F G H r σ → Run X e σ H (PostE X.K F0 T F σ Q)
def PostT (K : PySem.W.Frag) (F0 T F : Hp) (σ : L2.St) (Q : Bool → Env2 → GD → Prop) : Bool → Hp → Prop := fun b H' =>
  ∃ r' G' F', Ex F F' ∧ Sta K F0 T F' G' H' r' σ ∧ Q b r' G'
def WT (X : Cy) (e : Expr) (r : Env2) (G : GD) (Q : Bool → Env2 → GD → Prop) : Prop :=
  ∀ (F0 T F H : Hp) (σ : L2.St), Lk X F0 T → Sta X.K F0 T F G H r σ → RunT X e σ H (PostT X.K F0 T F σ Q)
def WW (X : Cy) (e : Expr) (r : Env2) (G : GD) (Q : Bool → Env2 → GD → Prop) : Prop :=
  ∀ (F0 T F H : Hp) (σ : L2.St), Lk X F0 T → Sta X.K F0 T F G H r σ → RunW X e σ H (PostT X.K F0 T F σ Q)
def PostA (K : PySem.W.Frag) (F0 T F : Hp) (σ : L2.St) (Q : List D → Env2 → GD → Prop) : List V → Hp → Prop := fun vs H' =>
  ∃ ds r' G' F', Ex F F' ∧ Sta K F0 T F' G' H' r' σ ∧ RepL K F' ds vs ∧ Q ds r' G'
def WA (X : Cy) (es : List Expr) (r : Env2) (G : GD) (Q : List D → Env2 → GD → Prop) : Prop :=
  ∀ (F0 T F H : Hp) (σ : L2.St), Lk X F0 T → Sta X.K F0 T F G H r σ → RunA X es σ H (PostA X.K F0 T F σ Q)
structure EndsD where
  nx : Env2 → GD → Prop
  rt : Res → GD → Prop
  bk : Env2 → GD → Prop := fun _ _ => False
  ct : Env2 → GD → Prop := fun _ _ => False
def PostN (K : PySem.W.Frag) (F0 T : Hp) (Q : Env2 → GD → Prop) : L2.St → Hp → Prop := fun σ' H' => ∃ r' G' F', Sta K F0 T F' G' H' r' σ' ∧ Q r' G'
def PostR (K : PySem.W.Frag) (F0 T : Hp) (Q : Res → GD → Prop) : VK := fun v H' => ∃ x G' F', Bas K F0 T F' G' H' ∧ RtOk K T F' G' H' x v ∧ Q x G'
def EndsD.at (K : PySem.W.Frag) (F0 T : Hp) (D : EndsD) : Ends := { nx := PostN K F0 T D.nx, rt := PostR K F0 T D.rt, bk := PostN K F0 T D.bk, ct := PostN K F0 T D.ct }
def WS (X : Cy) (st : Stmt) (r : Env2) (G : GD) (D : EndsD) : Prop :=
  ∀ (F0 T F H : Hp) (σ : L2.St), Lk X F0 T → Sta X.K F0 T F G H r σ → RunS X st (D.at X.K F0 T) σ H
def WB (X : Cy) (sts : List Stmt) (r : Env2) (G : GD) (D : EndsD) : Prop :=
  ∀ (F0 T F H : Hp) (σ : L2.St), Lk X F0 T → Sta X.K F0 T F G H r σ → RunB X sts (D.at X.K F0 T) σ H
/-- freezing a result -/
def fz (r : Env2) : Res → Option (D × Env2)
  | .sh d => some (d, r)
  | .fr d => if isDic d then none else some (d, r)
  | .pk i => match r[i]? with
    | some (.own d) => if isDic d then none else some (d, r.set i (.sh d))
    | _ => none
section
variable {X : Cy} {e a b c : Expr} {es : List Expr} {st : Stmt} {sts rest : List Stmt} {r : Env2} {G : GD} {pos : Pos}
theorem Sta.fz {K : PySem.W.Frag} {F0 T F : Hp} {G : GD} {H : Hp} {r r2 : Env2} {σ : L2.St} {x : Res} {v : V} {d : D} (S : Sta K F0 T F G H r σ) (h : ResOk K T F G H r σ x v) (e : fz r x = some (d, r2)) : ∃ F', Ex F F' ∧ Sta K F0 T F' G H r2 σ ∧ Rep K F' d v := by
  cases x with
  | sh d' => cases e; exact ⟨F, Ex.refl _, S, h⟩
  | fr d' =>
    have e' : (if isDic d' then none else some (d', r)) = some (d, r2) := e
    cases hD : isDic d' with
    | true => rw [hD] at e'; cases e'
    | false =>
      rw [hD] at e'
      cases e'
      exact S.frzRes hD h
  | pk i =>
    obtain ⟨h1, d', h2⟩ := h
    have e' : (match r[i]? with | some (.own d) => if isDic d then none else some (d, r.set i (.sh d)) | _ => none) = some (d, r2) := e
    rw [h2] at e'
    dsimp only at e'
    have hD : isDic d' = false := by
      cases hD : isDic d' with
      | true => rw [hD] at e'; cases e'
      | false => rfl
    rw [hD] at e'
    cases e'
    obtain ⟨F', k1, k2, v', k3, k4⟩ := S.frzSlot hD h2
    rw [h1] at k3
    cases k3
    exact ⟨F', k1, k2, k4⟩
theorem WE.mono {Q Q' : Res → Env2 → GD → Prop} (h : WE X e r G Q) (k : ∀ x r' G', Q x r' G' → Q' x r' G') : WE X e r G Q' := fun F0 T F H σ lk S =>
  (h F0 T F H σ lk S).mono fun _ _ ⟨x, r', G', F', a, b, c, q⟩ => ⟨x, r', G', F', a, b, c, k _ _ _ q⟩
theorem WT.mono {Q Q' : Bool → Env2 → GD → Prop} (h : WT X e r G Q) (k : ∀ x r' G', Q x r' G' → Q' x r' G') : WT X e r G Q' := fun F0 T F H σ lk S =>
  (h F0 T F H σ lk S).mono fun _ _ ⟨r', G', F', a, b, q⟩ => ⟨r', G', F', a, b, k _ _ _ q⟩
theorem WB.mono {D D' : EndsD} (h : WB X sts r G D) (k1 : ∀ r G, D.nx r G → D'.nx r G) (k2 : ∀ x G, D.rt x G → D'.rt x G) (k3 : ∀ r G, D.bk r G → D'.bk r G) (k4 : ∀ r G, D.ct r G → D'.ct r G) : WB X sts r G D' := fun F0 T F H σ lk S =>
  (h F0 T F H σ lk S).mono (fun _ _ ⟨r', G', F', a, q⟩ => ⟨r', G', F', a, k1 _ _ q⟩) (fun _ _ ⟨x, G', F', a, b, q⟩ => ⟨x, G', F', a, b, k2 _ _ q⟩) (fun _ _ ⟨r', G', F', a, q⟩ => ⟨r', G', F', a, k3 _ _ q⟩) (fun _ _ ⟨r', G', F', a, q⟩ => ⟨r', G', F', a, k4 _ _ q⟩)
theorem WB.weak {r' : Env2} {D : EndsD} (w : Wk r r') (h : WB X sts r' G D) : WB X sts r G D := fun F0 T F H σ lk S => h F0 T F H σ lk (S.weak w)
theorem we_const {v : V} {d : D} {Q : Res → Env2 → GD → Prop} (h : PE X e (tC v)) (hd : ∀ K F, Rep K F d v) (q : Q (.sh d) r G) : WE X e r G Q := fun F0 T F H σ lk S =>
  Run.of h ⟨.sh d, r, G, F, Ex.refl _, S, hd _ _, q⟩
theorem we_int {i : Int} {j} {Q : Res → Env2 → GD → Prop} (q : Q (.sh (.int i)) r G) : WE X (.Constant (.int i) j pos) r G Q := we_const (d := .int i) pe_int (fun _ _ => rfl) q
theorem we_bl {i : Bool} {j} {Q : Res → Env2 → GD → Prop} (q : Q (.sh (.bl i)) r G) : WE X (.Constant (.bool i) j pos) r G Q := we_const (d := .bl i) pe_bl (fun _ _ => rfl) q
theorem we_non {j} {Q : Res → Env2 → GD → Prop} (q : Q (.sh .non) r G) : WE X (.Constant .none j pos) r G Q := we_const (d := .non) pe_non (fun _ _ => rfl) q
/-- what reading a slot gives -/
def rdS (r : Env2) (i : Nat) : Option Res := match r[i]? with
  | some (.sh d) => some (.sh d)
  | some (.own _) => some (.pk i)
  | _ => none
theorem we_var (i : Nat) {x : Str} {y : Res} {Q : Res → Env2 → GD → Prop} (hN : X.N[i]? = some x) (hv : Vis X.env.scope x) (hy : rdS r i = some y) (q : Q y r G) (hd : (x == ("__debug__" : Str)) = false := by decide) (hcd : (x == ("__classdict__" : Str)) = false := by decide) :
    WE X (.Name x pos) r G Q := fun F0 T F H σ lk S => by
  refine Run.of (pe_var hN hv hd hcd) ?_
  cases hr : r[i]? with
  | none => unfold rdS at hy; rw [hr] at hy; cases hy
  | some s =>
    unfold rdS at hy
    rw [hr] at hy
    cases s with
    | no => cases hy
    | sh d =>
      cases hy
      obtain ⟨v, h1, h2⟩ := S.slot hr
      exact ⟨v, h1, .sh d, r, G, F, Ex.refl _, S, h2, q⟩
    | own d =>
      cases hy
      obtain ⟨p, h1, h2⟩ := S.ownS hr
      exact ⟨.ref p, h1, .pk i, r, G, F, Ex.refl _, S, ⟨h1, d, hr⟩, q⟩
/-- a constant of the module -/
theorem we_globI {x : Str} {i : Int} {t : Tok} {Q : Res → Env2 → GD → Prop} (hg : Gl X x) (hm : X.mg x = some (.int i t)) (q : Q (.sh (.int i)) r G) (hd : (x == ("__debug__" : Str)) = false := by decide) : WE X (.Name x pos) r G Q := we_const (v := .int i) (d := .int i) (pe_glob hg hm ⟨t, rfl⟩ hd) (fun _ _ => rfl) q
/-- a two-place operation on viewed data -/
def OpW (X : Cy) (f : Value → Value → Sem Value) (da db : D) (Q : Res → Prop) : Prop :=
  ∀ (F0 T F : Hp) (G : GD) (H : Hp) (r : Env2) (σ : L2.St) (va vb : V), Sta X.K F0 T F G H r σ → Vw X.K F H da va → Vw X.K F H db vb →
    ∃ rr : R2, OpR X f rr ∧ rr va vb H (fun v H' => ∃ x F', Ex F F' ∧ Sta X.K F0 T F' G H' r σ ∧ ResOk X.K T F' G H' r σ x v ∧ Q x)
def opU (X : Cy) (f : Value → Value → Sem Value) : R2 := fun x y H Q => ∃ rr : R2, OpR X f rr ∧ rr x y H Q
theorem opU_ok (f : Value → Value → Sem Value) : OpR X f (opU X f) := fun pins s σ H x y v u Q I rx ry ⟨rr, h1, h2⟩ => h1 pins s σ H x y v u Q I rx ry h2
/-- a held result, its view at a later state -/
theorem hold {K : PySem.W.Frag} {F0 T F : Hp} {G : GD} {H : Hp} {r : Env2} {σ : L2.St} {x : Res} {v : V} (S : Sta K F0 T F G H r σ) (h : ResOk K T F G H r σ x v) :
    ∃ F1, Ex F F1 ∧ Sta K F0 T F1 G H r σ ∧ ∀ (F2 : Hp) (G2 : GD) (H2 : Hp) (r2 : Env2) (d : D), Ex F1 F2 → Sta K F0 T F2 G2 H2 r2 σ → VwR r2 G2 x d → Vw K F2 H2 d v := by
  have red : ∀ (F2 : Hp) (G2 : GD) (H2 : Hp) (r2 : Env2) (d : D), Sta K F0 T F2 G2 H2 r2 σ → (vw r2 x = some d → Vw K F2 H2 d v) → VwR r2 G2 x d → Vw K F2 H2 d v := fun F2 G2 H2 r2 d S2 k e => by
    rcases e with e | ⟨a, rfl, hG⟩
    · exact k e
    · cases (show v = .ref a from h)
      exact .inr ⟨a, rfl, S2.bas.gh _ _ hG⟩
  cases x with
  | sh d => exact ⟨F, Ex.refl _, S, fun F2 G2 H2 r2 d' ex S2 e => red F2 G2 H2 r2 d' S2 (fun e => by cases e; exact .inl (Rep.mono ex _ _ h)) e⟩
  | fr d =>
    cases hD : isDic d with
    | true =>
      refine ⟨F, Ex.refl _, S, fun F2 G2 H2 r2 d' ex S2 e => red F2 G2 H2 r2 d' S2 (fun e => ?_) e⟩
      have e' : (if isDic d then none else some d) = some d' := e
      rw [hD] at e'; cases e'
    | false =>
      obtain ⟨F1, k1, k2, k3⟩ := S.frzRes hD h
      refine ⟨F1, k1, k2, fun F2 G2 H2 r2 d' ex S2 e => red F2 G2 H2 r2 d' S2 (fun e => ?_) e⟩
      have e' : (if isDic d then none else some d) = some d' := e
      rw [hD] at e'; cases e'
      exact .inl (Rep.mono ex _ _ k3)
  | pk i =>
    refine ⟨F, Ex.refl _, S, fun F2 G2 H2 r2 d' ex S2 e => red F2 G2 H2 r2 d' S2 (fun e => ?_) e⟩
    obtain ⟨h1, d, h2⟩ := h
    have e' : (match r2[i]? with | some (.own d) => some d | some (.sh d) => some d | _ => none) = some d' := e
    cases hr : r2[i]? with
    | none => rw [hr] at e'; cases e'
    | some s =>
      rw [hr] at e'
      cases s with
      | no => cases e'
      | sh d2 =>
        cases e'
        obtain ⟨v', q1, q2⟩ := S2.slot hr
        rw [h1] at q1; cases q1
        exact .inl q2
      | own d2 =>
        cases e'
        obtain ⟨p, q1, q2, _⟩ := S2.ownS hr
        rw [h1] at q1; cases q1
        exact .inr ⟨p, rfl, q2⟩
/-- two operands, then an operation -/
theorem two {f : Value → Value → Sem Value} {Q : Res → Env2 → GD → Prop} {F0 T F H : Hp} {σ : L2.St} (lk : Lk X F0 T) (S : Sta X.K F0 T F G H r σ)
    (h : WE X a r G fun x r1 G1 => WE X b r1 G1 fun y r2 G2 => ∃ da db, VwR r2 G2 x da ∧ VwR r2 G2 y db ∧ OpW X f da db fun z => Q z r2 G2) :
    tOp (opU X f) (Run X a) (Run X b) σ H (PostE X.K F0 T F σ Q) := by
  refine (h F0 T F H σ lk S).mono fun va H1 ⟨x, r1, G1, F1, e1, S1, k1, h1⟩ => ?_
  obtain ⟨F1', e1', S1', hv⟩ := hold S1 k1
  refine (h1 F0 T F1' H1 σ lk S1').mono fun vb H2 ⟨y, r2, G2, F2, e2, S2, k2, da, db, q1, q2, q3⟩ => ?_
  obtain ⟨rr, h3, h4⟩ := q3 F0 T F2 G2 H2 r2 σ va vb S2 (hv F2 G2 H2 r2 da e2 S2 q1) (S2.viewR k2 q2)
  have post : (fun v H' => ∃ z F', Ex F2 F' ∧ Sta X.K F0 T F' G2 H' r2 σ ∧ ResOk X.K T F' G2 H' r2 σ z v ∧ Q z r2 G2) = (fun v H' => ∃ z F', Ex F2 F' ∧ Sta X.K F0 T F' G2 H' r2 σ ∧ ResOk X.K T F' G2 H' r2 σ z v ∧ Q z r2 G2) := rfl
  refine ⟨fun u w H Q' => rr u w H (fun v H' => ∃ z F', Ex F2 F' ∧ Sta X.K F0 T F' G2 H' r2 σ ∧ ResOk X.K T F' G2 H' r2 σ z v ∧ Q z r2 G2) ∧ ∀ v H', (∃ z F', Ex F2 F' ∧ Sta X.K F0 T F' G2 H' r2 σ ∧ ResOk X.K T F' G2 H' r2 σ z v ∧ Q z r2 G2) → Q' v H', fun pins s σ H x y v u Q' I rx ry ⟨q, m⟩ => ?_, h4, fun v H' ⟨z, F', m1, m2, m3, m4⟩ => ⟨z, r2, G2, F', ((e1.trans e1').trans e2).trans m1, m2, m3, m4⟩⟩
  exact wpAny_mono (h3 pins s σ H x y v u _ I rx ry q) (fun _ _ ⟨v, H', I', rl, q⟩ => ⟨v, H', I', rl, m v H' q⟩) fun _ _ x => x
theorem we_bin {op : Operator} {Q : Res → Env2 → GD → Prop}
    (h : WE X a r G fun x r1 G1 => WE X b r1 G1 fun y r2 G2 => ∃ da db, VwR r2 G2 x da ∧ VwR r2 G2 y db ∧ OpW X (binaryOp op) da db fun z => Q z r2 G2) : WE X (.BinOp a op b pos) r G Q :=
  fun _ _ _ _ _ lk S => Run.of (pe_op (opU_ok _) peR peR) (two lk S h)
theorem we_cmp {op : CmpOp} {Q : Res → Env2 → GD → Prop} (hm : behindInMarks op b = false)
    (h : WE X a r G fun x r1 G1 => WE X b r1 G1 fun y r2 G2 => ∃ da db, VwR r2 G2 x da ∧ VwR r2 G2 y db ∧ OpW X (compareOp op) da db fun z => Q z r2 G2) : WE X (.Compare a [op] [b] pos) r G Q :=
  fun _ _ _ _ _ lk S => Run.of (pe_cmpR (opU_ok _) peR peR hm) (two lk S h)
/-- the result is a truth value -/
def isB (Q : Bool → Env2 → GD → Prop) : Res → Env2 → GD → Prop := fun x r G => ∃ c, x = .sh (.bl c) ∧ Q c r G
theorem postB {K : PySem.W.Frag} {F0 T F : Hp} {σ : L2.St} {Q : Bool → Env2 → GD → Prop} {v : V} {H' : Hp} (h : PostE K F0 T F σ (isB Q) v H') : ∃ c, v = .bl c ∧ PostT K F0 T F σ Q c H' := by
  obtain ⟨x, r', G', F', k1, k2, k3, c, rfl, k4⟩ := h
  exact ⟨c, k3, r', G', F', k1, k2, k4⟩
theorem wt_cmp {op : CmpOp} {Q : Bool → Env2 → GD → Prop} (hm : behindInMarks op b = false)
    (h : WE X a r G fun x r1 G1 => WE X b r1 G1 fun y r2 G2 => ∃ da db, VwR r2 G2 x da ∧ VwR r2 G2 y db ∧ OpW X (compareOp op) da db fun z => isB Q z r2 G2) : WT X (.Compare a [op] [b] pos) r G Q :=
  fun F0 T F H σ lk S => RunT.of (pt_cmpR (opU_ok _) peR peR hm) (by
    have q := two (Q := isB Q) lk S h
    refine Run.mono q fun va H1 q1 => Run.mono q1 fun vb H2 ⟨rr, h3, h4⟩ => ⟨fun u w H Q' => rr u w H (PostE X.K F0 T F σ (isB Q)) ∧ ∀ v H', PostE X.K F0 T F σ (isB Q) v H' → Q' v H', fun pins s σ H x y v u Q' I rx ry ⟨q, m⟩ => ?_, h4, fun v H' z => postB z⟩
    exact wpAny_mono (h3 pins s σ H x y v u _ I rx ry q) (fun _ _ ⟨v, H', I', rl, q⟩ => ⟨v, H', I', rl, m v H' q⟩) fun _ _ x => x)
/-- a value as a test -/
theorem wt_val {Q : Bool → Env2 → GD → Prop} (he : ∀ whole, isTrue e X.env whole = (do let v ← whole; standAt e.pos; holding [v] (truthy v))) (h : WE X e r G (isB Q)) : WT X e r G Q :=
  fun F0 T F H σ lk S => RunT.of (pt_val peR he) ((h F0 T F H σ lk S).mono fun v H' q => postB q)
theorem wt_not {Q : Bool → Env2 → GD → Prop} (h : WT X a r G fun c => Q (!c)) : WT X (.UnaryOp .Not a pos) r G Q :=
  fun F0 T F H σ lk S => RunT.of (pt_not ptR) (h F0 T F H σ lk S)
theorem wt_w {Q : Bool → Env2 → GD → Prop} (h : WW X e r G Q) : WT X e r G Q := fun F0 T F H σ lk S pins s I => h F0 T F H σ lk S _ pins s I
theorem ww_and1 {Q : Bool → Env2 → GD → Prop} (h : WT X a r G Q) : WW X (.BoolOp .And [a] pos) r G Q := fun F0 T F H σ lk S => RunW.of (pw_and1 ptR) (h F0 T F H σ lk S)
theorem ww_or1 {Q : Bool → Env2 → GD → Prop} (h : WT X a r G Q) : WW X (.BoolOp .Or [a] pos) r G Q := fun F0 T F H σ lk S => RunW.of (pw_or1 ptR) (h F0 T F H σ lk S)
theorem ww_and {Q : Bool → Env2 → GD → Prop} (h : WT X a r G fun c r1 G1 => (c = true → WW X (.BoolOp .And (b :: es) pos) r1 G1 Q) ∧ (c = false → Q false r1 G1)) : WW X (.BoolOp .And (a :: b :: es) pos) r G Q := fun F0 T F H σ lk S =>
  RunW.of (pw_and ptR pwR) ((h F0 T F H σ lk S).mono fun c H1 ⟨r1, G1, F1, e1, S1, q1, q2⟩ => by
    cases c with
    | true => rw [if_pos rfl]; exact fun w pins s I => wpAny_mono (q1 rfl F0 T F1 H1 σ lk S1 w pins s I) (fun _ _ ⟨H', I', r', G', F', k1, k2, k3⟩ => ⟨H', I', r', G', F', e1.trans k1, k2, k3⟩) fun _ _ x => x
    | false => rw [if_neg Bool.false_ne_true]; exact ⟨r1, G1, F1, e1, S1, q2 rfl⟩)
theorem ww_or {Q : Bool → Env2 → GD → Prop} (h : WT X a r G fun c r1 G1 => (c = false → WW X (.BoolOp .Or (b :: es) pos) r1 G1 Q) ∧ (c = true → Q true r1 G1)) : WW X (.BoolOp .Or (a :: b :: es) pos) r G Q := fun F0 T F H σ lk S =>
  RunW.of (pw_or ptR pwR) ((h F0 T F H σ lk S).mono fun c H1 ⟨r1, G1, F1, e1, S1, q1, q2⟩ => by
    cases c with
    | true => rw [if_pos rfl]; exact ⟨r1, G1, F1, e1, S1, q2 rfl⟩
    | false => rw [if_neg Bool.false_ne_true]; exact fun w pins s I => wpAny_mono (q1 rfl F0 T F1 H1 σ lk S1 w pins s I) (fun _ _ ⟨H', I', r', G', F', k1, k2, k3⟩ => ⟨H', I', r', G', F', e1.trans k1, k2, k3⟩) fun _ _ x => x)
/-- and, or, not as values (truth values) -/
theorem PostE.ext {K : PySem.W.Frag} {F0 T F F1 : Hp} {σ : L2.St} {Q : Res → Env2 → GD → Prop} (e : Ex F F1) {v : V} {H : Hp} (h : PostE K F0 T F1 σ Q v H) : PostE K F0 T F σ Q v H := by
  obtain ⟨x, r', G', F', k1, k2⟩ := h
  exact ⟨x, r', G', F', e.trans k1, k2⟩
theorem we_one {op} {Q : Res → Env2 → GD → Prop} (h : WE X a r G Q) : WE X (.BoolOp op [a] pos) r G Q := fun F0 T F H σ lk S => Run.of (pe_one peR) (h F0 T F H σ lk S)
theorem we_and {Q : Res → Env2 → GD → Prop} (h : WE X a r G (isB fun c r1 G1 => (c = true → WE X (.BoolOp .And (b :: es) pos) r1 G1 Q) ∧ (c = false → Q (.sh (.bl false)) r1 G1))) : WE X (.BoolOp .And (a :: b :: es) pos) r G Q := fun F0 T F H σ lk S =>
  Run.of (pe_and peR peR) ((h F0 T F H σ lk S).mono fun v H1 q => by
    obtain ⟨c, rfl, r1, G1, F1, e1, S1, q1, q2⟩ := postB q
    refine ⟨c, rfl, ?_⟩
    cases c with
    | true => rw [if_pos rfl]; exact (q1 rfl F0 T F1 H1 σ lk S1).mono fun _ _ z => z.ext e1
    | false => rw [if_neg Bool.false_ne_true]; exact ⟨.sh (.bl false), r1, G1, F1, e1, S1, rfl, q2 rfl⟩)
theorem we_not {Q : Res → Env2 → GD → Prop} (h : WE X a r G (isB fun c r1 G1 => Q (.sh (.bl (!c))) r1 G1)) : WE X (.UnaryOp .Not a pos) r G Q := fun F0 T F H σ lk S =>
  Run.of (pe_not peR) ((h F0 T F H σ lk S).mono fun v H1 q => by
    obtain ⟨c, rfl, r1, G1, F1, e1, S1, q1⟩ := postB q
    exact ⟨c, rfl, .sh (.bl (!c)), r1, G1, F1, e1, S1, rfl, q1⟩)
theorem we_ifExp {Q : Res → Env2 → GD → Prop} (h : WT X c r G fun d r1 G1 => (d = true → WE X a r1 G1 Q) ∧ (d = false → WE X b r1 G1 Q)) : WE X (.IfExp c a b pos) r G Q := fun F0 T F H σ lk S =>
  Run.of (pe_ifExp ptR peR peR) ((h F0 T F H σ lk S).mono fun d H1 ⟨r1, G1, F1, e1, S1, q1, q2⟩ => by
    cases d with
    | true => rw [if_pos rfl]; exact (q1 rfl F0 T F1 H1 σ lk S1).mono fun _ _ z => z.ext e1
    | false => rw [if_neg Bool.false_ne_true]; exact (q2 rfl F0 T F1 H1 σ lk S1).mono fun _ _ z => z.ext e1)
theorem wa_nil {Q : List D → Env2 → GD → Prop} (q : Q [] r G) : WA X [] r G Q := fun F0 T F H σ lk S => RunA.of pa_nil ⟨[], r, G, F, Ex.refl _, S, rfl, q⟩
theorem PostA.ext {K : PySem.W.Frag} {F0 T F F1 : Hp} {σ : L2.St} {Q : List D → Env2 → GD → Prop} (e : Ex F F1) {v : List V} {H : Hp} (h : PostA K F0 T F1 σ Q v H) : PostA K F0 T F σ Q v H := by
  obtain ⟨x, r', G', F', k1, k2⟩ := h
  exact ⟨x, r', G', F', e.trans k1, k2⟩
theorem wa_cons {Q : List D → Env2 → GD → Prop} (h : WE X e r G fun x r1 G1 => ∃ d r2, fz r1 x = some (d, r2) ∧ WA X es r2 G1 fun ds r3 G3 => Q (d :: ds) r3 G3)
    (hs : starEach (e :: es) X.env = (false, eval e X.env) :: starEach es X.env := by rfl) : WA X (e :: es) r G Q := fun F0 T F H σ lk S =>
  RunA.of (pa_cons peR paR hs) ((h F0 T F H σ lk S).mono fun v H1 ⟨x, r1, G1, F1, e1, S1, k1, d, r2, q1, q2⟩ => by
    obtain ⟨F2, e2, S2, rp⟩ := S1.fz k1 q1
    refine (q2 F0 T F2 H1 σ lk S2).mono fun vs H3 ⟨ds, r3, G3, F3, e3, S3, k3, q3⟩ => ?_
    exact ⟨d :: ds, r3, G3, F3, (e1.trans e2).trans e3, S3, ⟨v, vs, rfl, Rep.mono e3 _ _ rp, k3⟩, q3⟩)
/-- how many items a display may have -/
abbrev LIM : Nat := 16777216
theorem lim_ok {n : Nat} (h : n ≤ LIM) : n ≤ sizeLine := by rw [sizeLine_eq]; exact h
theorem lim_of {n : Nat} (h : n ≤ sizeLine) : n ≤ LIM := by rw [sizeLine_eq] at h; exact h
theorem lim_lt {n : Nat} (h : n < LIM) : n < sizeLine := by rw [sizeLine_eq]; exact h
/-- what lies in a heap is not too long -/
def BL (K : PySem.W.Frag) (H : Hp) : Prop := (∀ a xs, SqL K H a xs → xs.length ≤ LIM) ∧ (∀ a xs, SqT K H a xs → xs.length ≤ LIM) ∧ ∀ a kvs, Rd H a (.dK kvs) → kvs.length ≤ LIM
theorem bl_of {X : Cx} {pins : List (Addr × Obj)} {σ : L2.St} {H : Hp} {s : Shared} (I : Inv X pins σ H s) : BL X.K H := by
  refine ⟨fun a xs h => ?_, fun a xs h => ?_, fun a kvs h => ?_⟩
  · obtain ⟨_, _, _, z⟩ := I.list h
    exact lim_of z
  · obtain ⟨_, _, _, z⟩ := I.tuple h
    exact lim_of z
  · rcases h with h | ⟨o, h⟩
    · exact lim_of (I.hok _ _ h).1
    · exact lim_of (I.hok _ _ h).2.1
theorem Run.bl {X : Cx} {e : Expr} {σ : L2.St} {H : Hp} {Q : VK} (h : Run X e σ H Q) : Run X e σ H fun v H' => BL X.K H' ∧ Q v H' := fun pins s I =>
  wpAny_mono (h pins s I) (fun _ _ ⟨v, H', I', r, q⟩ => ⟨v, H', I', r, bl_of I', q⟩) fun _ _ x => x
theorem we_tup {k} {Q : Res → Env2 → GD → Prop} (h : WA X es r G fun ds r1 G1 => ds.length ≤ LIM ∧ Q (.sh (.tup ds)) r1 G1) : WE X (.Tuple es k pos) r G Q := fun F0 T F H σ lk S =>
  Run.of (pe_tup paR) ((h F0 T F H σ lk S).mono fun vs H1 ⟨ds, r1, G1, F1, e1, S1, k1, hl, q⟩ => ⟨by rw [k1.length]; exact lim_ok hl, fun p hp => by
    have ef : Ex F1 (upd F1 p (.tup vs)) := Ex.new (S1.bas.freshF hp).1
    exact ⟨.sh (.tup ds), r1, G1, upd F1 p (.tup vs), e1.trans ef, S1.newF hp, ⟨p, vs, rfl, .inl (.inl upd_same), RepL.mono ef _ _ k1⟩, q⟩⟩)
theorem we_lst {Q : Res → Env2 → GD → Prop} (h : WA X es r G fun ds r1 G1 => ds.length ≤ LIM ∧ Q (.fr (.lst ds)) r1 G1) : WE X (.List es pos) r G Q := fun F0 T F H σ lk S =>
  Run.of (pe_lst paR) ((h F0 T F H σ lk S).mono fun vs H1 ⟨ds, r1, G1, F1, e1, S1, k1, hl, q⟩ => ⟨by rw [k1.length]; exact lim_ok hl, fun p hp => by
    obtain ⟨h1, h2, h3⟩ := S1.bas.freshF hp
    exact ⟨.fr (.lst ds), r1, G1, F1, e1, S1.newH hp, ⟨p, rfl, ⟨vs, upd_same, k1⟩, h1, h2, h3, S1.freshR hp⟩, q⟩⟩)
end
section
variable {X : Cy} {e a b c : Expr} {es : List Expr} {st : Stmt} {sts rest : List Stmt} {r : Env2} {G : GD} {pos : Pos} {Q : Res → Prop}
theorem opw_flat {f : Value → Value → Sem Value} {da db d : D} {v : V} (hd : ∀ K F, Rep K F d v) (h : ∀ F H va vb, Ex F H → Vw X.K F H da va → Vw X.K F H db vb → ∃ rr, OpR X f rr ∧ ∀ P : VK, P v H → rr va vb H P) (q : Q (.sh d)) : OpW X f da db Q :=
  fun F0 T F G H r σ va vb S h1 h2 => by
    obtain ⟨rr, k1, k2⟩ := h F H va vb S.bas.fh h1 h2
    exact ⟨rr, k1, k2 _ ⟨.sh d, F, Ex.refl _, S, hd _ _, q⟩⟩
theorem opw_add {i j : Int} (q : Q (.sh (.int (i + j)))) : OpW X (binaryOp .Add) (.int i) (.int j) Q :=
  opw_flat (d := .int (i + j)) (v := .int (i + j)) (fun _ _ => rfl) (fun F H va vb _ h1 h2 => ⟨_, op_add, fun P p => ⟨i, j, h1.int, h2.int, p⟩⟩) q
theorem opw_sub {i j : Int} (q : Q (.sh (.int (i - j)))) : OpW X (binaryOp .Sub) (.int i) (.int j) Q :=
  opw_flat (d := .int (i - j)) (v := .int (i - j)) (fun _ _ => rfl) (fun F H va vb _ h1 h2 => ⟨_, op_sub, fun P p => ⟨i, j, h1.int, h2.int, p⟩⟩) q
theorem opw_mul {i j : Int} (hc : (-(2 ^ 64) < i ∧ i < 2 ^ 64) ∨ (-(2 ^ 64) < j ∧ j < 2 ^ 64)) (q : Q (.sh (.int (i * j)))) : OpW X (binaryOp .Mult) (.int i) (.int j) Q :=
  opw_flat (d := .int (i * j)) (v := .int (i * j)) (fun _ _ => rfl) (fun F H va vb _ h1 h2 => ⟨_, op_mul, fun P p => ⟨i, j, h1.int, h2.int, hc, p⟩⟩) q
theorem opw_fdiv {i j : Int} (hc : 0 < j ∧ j < 1073741824) (q : Q (.sh (.int (i / j)))) : OpW X (binaryOp .FloorDiv) (.int i) (.int j) Q :=
  opw_flat (d := .int (i / j)) (v := .int (i / j)) (fun _ _ => rfl) (fun F H va vb _ h1 h2 => ⟨_, op_fdiv, fun P p => ⟨i, j, h1.int, h2.int, hc, p⟩⟩) q
theorem opw_mod {i j : Int} (hc : 0 < j) (q : Q (.sh (.int (i % j)))) : OpW X (binaryOp .Mod) (.int i) (.int j) Q :=
  opw_flat (d := .int (i % j)) (v := .int (i % j)) (fun _ _ => rfl) (fun F H va vb _ h1 h2 => ⟨_, op_mod, fun P p => ⟨i, j, h1.int, h2.int, hc, p⟩⟩) q
theorem opw_lt {i j : Int} (q : Q (.sh (.bl (decide (i < j))))) : OpW X (compareOp .Lt) (.int i) (.int j) Q :=
  opw_flat (d := .bl (decide (i < j))) (v := .bl (decide (i < j))) (fun _ _ => rfl) (fun F H va vb _ h1 h2 => ⟨_, op_lt, fun P p => ⟨i, j, h1.int, h2.int, p⟩⟩) q
theorem opw_le {i j : Int} (q : Q (.sh (.bl (decide (i ≤ j))))) : OpW X (compareOp .LtE) (.int i) (.int j) Q :=
  opw_flat (d := .bl (decide (i ≤ j))) (v := .bl (decide (i ≤ j))) (fun _ _ => rfl) (fun F H va vb _ h1 h2 => ⟨_, op_le, fun P p => ⟨i, j, h1.int, h2.int, p⟩⟩) q
theorem opw_gt {i j : Int} (q : Q (.sh (.bl (decide (j < i))))) : OpW X (compareOp .Gt) (.int i) (.int j) Q :=
  opw_flat (d := .bl (decide (j < i))) (v := .bl (decide (j < i))) (fun _ _ => rfl) (fun F H va vb _ h1 h2 => ⟨_, op_gt, fun P p => ⟨i, j, h1.int, h2.int, p⟩⟩) q
theorem vint_eq (i j : Int) : decide (V.int i = V.int j) = decide (i = j) := by
  by_cases h : i = j
  · subst h; simp
  · simp [h]
theorem opw_eqI {i j : Int} (q : Q (.sh (.bl (decide (i = j))))) : OpW X (compareOp .Eq) (.int i) (.int j) Q :=
  opw_flat (d := .bl (decide (i = j))) (v := .bl (decide (i = j))) (fun _ _ => rfl) (fun F H va vb _ h1 h2 => ⟨_, op_eq, fun P p => by cases h1.int; cases h2.int; exact ⟨rfl, by rw [vint_eq]; exact p⟩⟩) q
theorem opw_neI {i j : Int} (q : Q (.sh (.bl (!decide (i = j))))) : OpW X (compareOp .NotEq) (.int i) (.int j) Q :=
  opw_flat (d := .bl (!decide (i = j))) (v := .bl (!decide (i = j))) (fun _ _ => rfl) (fun F H va vb _ h1 h2 => ⟨_, op_ne, fun P p => by cases h1.int; cases h2.int; exact ⟨rfl, by rw [vint_eq]; exact p⟩⟩) q
/-- is None -/
def isNon : D → Bool
  | .non => true
  | _ => false
theorem vw_non {K : PySem.W.Frag} {F H : Hp} {d : D} {v : V} (h : Vw K F H d v) : decide (v = .non) = isNon d := by
  rcases h with h | ⟨p, rfl, h⟩
  · cases d with
    | non => cases (show v = .non from h); rfl
    | bl b => cases (show v = .bl b from h); rfl
    | int b => cases (show v = .int b from h); rfl
    | str b => cases (show v = .str b from h); rfl
    | tup b => obtain ⟨a, vs, rfl, _⟩ := h; rfl
    | lst b => obtain ⟨a, vs, rfl, _⟩ := h; rfl
    | dic ks b => obtain ⟨a, o, vs, rfl, _⟩ := h; rfl
    | ins C b => obtain ⟨a, dx, vs, rfl, _⟩ := h; rfl
    | adr b => cases (show v = .ref b from h); rfl
    | obj _ _ _ => exact h.elim
    | slo _ _ _ _ => exact h.elim
    | xdo _ _ => exact h.elim
    | tab _ => exact h.elim
    | hob _ _ => obtain ⟨rfl, _⟩ := h; rfl
    | kd _ _ _ => obtain ⟨a, ob, es, rfl, _⟩ := h; rfl
    | scr ns => obtain ⟨a, rfl, _⟩ := h; rfl
  · cases d with
    | lst b => rfl
    | dic ks b => rfl
    | obj _ _ _ => rfl
    | slo _ _ _ _ => rfl
    | xdo _ _ => rfl
    | tab _ => rfl
    | kd _ _ _ => rfl
    | _ => exact h.elim
theorem opw_isN {d : D} (q : Q (.sh (.bl (isNon d)))) : OpW X (compareOp .Is) d .non Q :=
  opw_flat (d := .bl (isNon d)) (v := .bl (isNon d)) (fun _ _ => rfl) (fun F H va vb _ h1 h2 => ⟨_, op_isN, fun P p => ⟨h2.non, by rw [vw_non h1]; exact p⟩⟩) q
theorem opw_notN {d : D} (q : Q (.sh (.bl (!isNon d)))) : OpW X (compareOp .IsNot) d .non Q :=
  opw_flat (d := .bl (!isNon d)) (v := .bl (!isNon d)) (fun _ _ => rfl) (fun F H va vb _ h1 h2 => ⟨_, op_notN, fun P p => ⟨h2.non, by rw [vw_non h1]; exact p⟩⟩) q
/-- lists and tuples joined -/
theorem lst_of {X : Cx} {pins : List (Addr × Obj)} {σ : L2.St} {H : Hp} {s : Shared} {a : Addr} {xs : List V} (I : Inv X pins σ H s) (h : Rd H a (.lst xs)) : xs.length ≤ sizeLine ∧ ∃ (its : List Value) (n : Nat), Vals xs its ∧ s.heap.get? a = some { cls := .type "list", data := .seq its.toArray n } := by
  rcases h with h | ⟨o, h⟩
  · exact I.hok _ _ h
  · exact (I.hok _ _ h).2
theorem opw_catT {xs ys : List D} (hl : xs.length + ys.length ≤ LIM) (q : Q (.sh (.tup (xs ++ ys)))) : OpW X (binaryOp .Add) (.tup xs) (.tup ys) Q :=
  fun F0 T F G H r σ va vb S h1 h2 => by
    obtain ⟨p1, vs, rfl, k1, k2⟩ := h1.tup S.bas.fh
    obtain ⟨p2, us, rfl, k3, k4⟩ := h2.tup S.bas.fh
    have r1 : Rep X.K F (.tup xs) (.ref p1) := by
      rcases h1 with h | ⟨_, _, h⟩
      · exact h
      · exact h.elim
    have r2 : Rep X.K F (.tup ys) (.ref p2) := by
      rcases h2 with h | ⟨_, _, h⟩
      · exact h
      · exact h.elim
    refine ⟨_, op_catA, p1, p2, vs, us, rfl, rfl, k1, k3, by rw [k2.length, k4.length]; exact lim_ok hl, fun e => ?_, fun _ e => ?_, fun _ _ p hp => ?_⟩
    · have e1 : xs = [] := by have := k2.length; rw [e] at this; exact List.length_eq_zero_iff.mp this.symm
      subst e1
      exact ⟨.sh (.tup ys), F, Ex.refl _, S, r2, q⟩
    · have e1 : ys = [] := by have := k4.length; rw [e] at this; exact List.length_eq_zero_iff.mp this.symm
      subst e1
      refine ⟨.sh (.tup (xs ++ [])), F, Ex.refl _, S, ?_, q⟩
      rw [List.append_nil]
      exact r1
    · have ef : Ex F (upd F p (.tup (vs ++ us))) := Ex.new (S.bas.freshF hp).1
      exact ⟨.sh (.tup (xs ++ ys)), upd F p (.tup (vs ++ us)), ef, S.newF hp, ⟨p, vs ++ us, rfl, .inl (.inl upd_same), RepL.mono ef _ _ (k2.append k4)⟩, q⟩
mutual
def toP : D → PyData
  | .non => .none
  | .bl b => .bool b
  | .int i => .int i
  | .str x => .str x
  | .tup ds => .tuple (toPs ds)
  | .lst ds => .list (toPs ds)
  | _ => .none
def toPs : List D → List PyData
  | [] => []
  | d :: ds => toP d :: toPs ds
end
def okD : Nat → D → Prop
  | _, .non => True
  | _, .bl _ => True
  | _, .int _ => True
  | _, .str x => PyData.strOk x = true
  | n + 1, .tup ds => ∀ d ∈ ds, okD n d
  | n + 1, .lst ds => ∀ d ∈ ds, okD n d
  | _, _ => False
theorem okD.dp {K : PySem.W.Frag} {F H : Hp} (e : Ex F H) : ∀ (n : Nat) (d : D) (v : V), okD n d → Vw K F H d v → Dp K H v (toP d) := by
  have all : ∀ n, (∀ (d : D) (v : V), okD n d → Vw K F H d v → Dp K H v (toP d)) → ∀ (ds : List D) (vs : List V), (∀ d ∈ ds, okD n d) → RepL K F ds vs → DpAll K H vs (toPs ds) := by
    intro n ih ds
    induction ds with
    | nil => intro vs _ h; cases (show vs = [] from h); exact .nil
    | cons d ds ih2 =>
      intro vs hk h
      obtain ⟨v, r, rfl, h1, h2⟩ := h
      exact .cons (ih d v (hk d List.mem_cons_self) (.inl h1)) (ih2 r (fun x hx => hk x (List.mem_cons_of_mem _ hx)) h2)
  intro n
  induction n with
  | zero =>
    intro d v hk h
    cases d with
    | non => cases h.non; exact .non
    | bl b => cases h.bl; exact .bl b
    | int b => cases h.int; exact .int b
    | str b => cases h.str; exact .str b
    | _ => exact hk.elim
  | succ n ih =>
    intro d v hk h
    cases d with
    | non => cases h.non; exact .non
    | bl b => cases h.bl; exact .bl b
    | int b => cases h.int; exact .int b
    | str b => cases h.str; exact .str b
    | tup ds =>
      obtain ⟨a, vs, rfl, h1, h2⟩ := h.tup e
      exact .tup h1 (all n ih ds vs hk h2)
    | lst ds =>
      obtain ⟨a, vs, rfl, h1, h2⟩ := h.lst e
      exact .lst (.inl h1) (all n ih ds vs hk h2)
    | _ => exact hk.elim
theorem okD.dep : ∀ (n : Nat) (d : D), okD n d → (toP d).depth ≤ n := by
  have all : ∀ n, (∀ d, okD n d → (toP d).depth ≤ n) → ∀ ds : List D, (∀ d ∈ ds, okD n d) → PyData.depthAll (toPs ds) ≤ n := by
    intro n ih ds
    induction ds with
    | nil => intro _; exact Nat.zero_le _
    | cons d ds ih2 =>
      intro hk
      show max (PyData.depth (toP d)) (PyData.depthAll (toPs ds)) ≤ n
      exact Nat.max_le.mpr ⟨ih d (hk d List.mem_cons_self), ih2 fun x hx => hk x (List.mem_cons_of_mem _ hx)⟩
  intro n
  induction n with
  | zero =>
    intro d hk
    cases d with
    | str b => exact Nat.le_refl _
    | non => exact Nat.le_refl _
    | bl b => exact Nat.le_refl _
    | int b => exact Nat.le_refl _
    | _ => exact hk.elim
  | succ n ih =>
    intro d hk
    cases d with
    | str b => exact Nat.zero_le _
    | non => exact Nat.zero_le _
    | bl b => exact Nat.zero_le _
    | int b => exact Nat.zero_le _
    | tup ds => exact Nat.succ_le_succ (all n ih ds hk)
    | lst ds => exact Nat.succ_le_succ (all n ih ds hk)
    | _ => exact hk.elim
theorem okD.lay : ∀ (n : Nat) (d : D), okD n d → (toP d).canLay0 = true := by
  have all : ∀ n, (∀ d, okD n d → (toP d).canLay0 = true) → ∀ ds : List D, (∀ d ∈ ds, okD n d) → PyData.canLayAll0 (toPs ds) = true := by
    intro n ih ds
    induction ds with
    | nil => intro _; rfl
    | cons d ds ih2 =>
      intro hk
      show (PyData.canLay0 (toP d) && PyData.canLayAll0 (toPs ds)) = true
      rw [ih d (hk d List.mem_cons_self), ih2 fun x hx => hk x (List.mem_cons_of_mem _ hx)]; rfl
  intro n
  induction n with
  | zero =>
    intro d hk
    cases d with
    | str b => exact hk
    | non => rfl
    | bl b => rfl
    | int b => rfl
    | _ => exact hk.elim
  | succ n ih =>
    intro d hk
    cases d with
    | str b => exact hk
    | non => rfl
    | bl b => rfl
    | int b => rfl
    | tup ds => exact all n ih ds hk
    | lst ds => exact all n ih ds hk
    | _ => exact hk.elim
theorem okD.shaped {n : Nat} {d : D} (h : okD n d) (hn : n ≤ 64) : SeqAt.shaped (toP d) = true := by
  unfold SeqAt.shaped
  rw [okD.lay n d h, decide_eq_true (Nat.le_trans (okD.dep n d h) hn)]; rfl
def eqD (a b : D) : Bool := PyData.eqv (toP a) (toP b)
theorem opw_eqD {da db : D} {n : Nat} (hu : X.A.units + 64 < cLine) (h1 : okD n da) (h2 : okD n db) (hn : n ≤ 64) (q : Q (.sh (.bl (eqD da db)))) : OpW X (compareOp .Eq) da db Q :=
  opw_flat (d := .bl (eqD da db)) (v := .bl (eqD da db)) (fun _ _ => rfl) (fun F H va vb e k1 k2 => ⟨_, op_eqD hu, fun P p => ⟨_, _, okD.dp e n _ _ h1 k1, okD.dp e n _ _ h2 k2, h1.shaped hn, h2.shaped hn, p⟩⟩) q
theorem opw_neD {da db : D} {n : Nat} (hu : X.A.units + 64 < cLine) (h1 : okD n da) (h2 : okD n db) (hn : n ≤ 64) (q : Q (.sh (.bl (!eqD da db)))) : OpW X (compareOp .NotEq) da db Q :=
  opw_flat (d := .bl (!eqD da db)) (v := .bl (!eqD da db)) (fun _ _ => rfl) (fun F H va vb e k1 k2 => ⟨_, op_neD hu, fun P p => ⟨_, _, okD.dp e n _ _ h1 k1, okD.dp e n _ _ h2 k2, h1.shaped hn, h2.shaped hn, p⟩⟩) q
def IxW (X : Cy) (da db : D) (Q : Res → Prop) : Prop :=
  ∀ (F0 T F : Hp) (G : GD) (H : Hp) (r : Env2) (σ : L2.St) (va vb : V), Sta X.K F0 T F G H r σ → Vw X.K F H da va → Vw X.K F H db vb →
    ∃ rr : R2, IxR X rr ∧ rr va vb H (fun v H' => ∃ x F', Ex F F' ∧ Sta X.K F0 T F' G H' r σ ∧ ResOk X.K T F' G H' r σ x v ∧ Q x)
def ixU (X : Cy) : R2 := fun x y H Q => ∃ rr : R2, IxR X rr ∧ rr x y H Q
theorem ixU_ok : IxR X (ixU X) := fun value slice pins s σ H x y v u Q I rx ry ⟨rr, h1, h2⟩ hs => h1 value slice pins s σ H x y v u Q I rx ry h2 hs
theorem we_ix {Q : Res → Env2 → GD → Prop} (hp : PlainIx b)
    (h : WE X a r G fun x r1 G1 => WE X b r1 G1 fun y r2 G2 => ∃ da db, VwR r2 G2 x da ∧ VwR r2 G2 y db ∧ IxW X da db fun z => Q z r2 G2) : WE X (.Subscript a b pos) r G Q :=
  fun F0 T F H σ lk S => Run.of (pe_ix ixU_ok peR peR hp) (by
    refine (h F0 T F H σ lk S).mono fun va H1 ⟨x, r1, G1, F1, e1, S1, k1, h1⟩ => ?_
    obtain ⟨F1', e1', S1', hv⟩ := hold S1 k1
    refine (h1 F0 T F1' H1 σ lk S1').mono fun vb H2 ⟨y, r2, G2, F2, e2, S2, k2, da, db, q1, q2, q3⟩ => ?_
    obtain ⟨rr, h3, h4⟩ := q3 F0 T F2 G2 H2 r2 σ va vb S2 (hv F2 G2 H2 r2 da e2 S2 q1) (S2.viewR k2 q2)
    refine ⟨fun u w H Q' => rr u w H (fun v H' => ∃ z F', Ex F2 F' ∧ Sta X.K F0 T F' G2 H' r2 σ ∧ ResOk X.K T F' G2 H' r2 σ z v ∧ Q z r2 G2) ∧ ∀ v H', (∃ z F', Ex F2 F' ∧ Sta X.K F0 T F' G2 H' r2 σ ∧ ResOk X.K T F' G2 H' r2 σ z v ∧ Q z r2 G2) → Q' v H', fun value slice pins s σ H x y v u Q' I rx ry ⟨q, m⟩ hs => ?_, h4, fun v H' ⟨z, F', m1, m2, m3, m4⟩ => ⟨z, r2, G2, F', ((e1.trans e1').trans e2).trans m1, m2, m3, m4⟩⟩
    exact wpAny_mono (h3 value slice pins s σ H x y v u _ I rx ry q hs) (fun _ _ ⟨v, H', I', rl, q⟩ => ⟨v, H', I', rl, m v H' q⟩) fun _ _ x => x)
/-- an item by an index of any sign -/
def atD (xs : List D) (i : Int) : Option D := (ixN xs.length i).bind fun j => xs[j]?
theorem atD_get {K : PySem.W.Frag} {F : Hp} {xs : List D} {vs : List V} {i : Int} {d : D} (h : RepL K F xs vs) (e : atD xs i = some d) : ∃ v, atI vs i = some v ∧ Rep K F d v := by
  unfold atD at e
  unfold atI
  rw [h.length]
  cases hj : ixN xs.length i with
  | none => rw [hj] at e; cases e
  | some j =>
    rw [hj] at e
    exact h.get e
theorem ixw_lst {xs : List D} {i : Int} {d : D} (e : atD xs i = some d) (q : Q (.sh d)) : IxW X (.lst xs) (.int i) Q := fun F0 T F G H r σ va vb S h1 h2 => by
  obtain ⟨p, vs, rfl, k1, k2⟩ := h1.lst S.bas.fh
  cases h2.int
  obtain ⟨v, k3, k4⟩ := atD_get k2 e
  exact ⟨_, ix_list, p, vs, i, v, rfl, rfl, .inl k1, k3, .sh d, F, Ex.refl _, S, k4, q⟩
theorem ixw_tup {xs : List D} {i : Int} {d : D} (e : atD xs i = some d) (q : Q (.sh d)) : IxW X (.tup xs) (.int i) Q := fun F0 T F G H r σ va vb S h1 h2 => by
  obtain ⟨p, vs, rfl, k1, k2⟩ := h1.tup S.bas.fh
  cases h2.int
  obtain ⟨v, k3, k4⟩ := atD_get k2 e
  exact ⟨_, ix_tup, p, vs, i, v, rfl, rfl, k1, k3, .sh d, F, Ex.refl _, S, k4, q⟩
theorem atD_nat {xs : List D} {j : Nat} {d : D} (e : xs[j]? = some d) : atD xs (j : Int) = some d := by
  have hj := (List.getElem?_eq_some_iff.mp e).1
  unfold atD ixN
  rw [if_pos (by omega), if_pos (by omega)]
  simpa using e
/-- one operand -/
theorem we_un {op : UnaryOp} {Q : Res → Env2 → GD → Prop} (hop : op = .USub) (h : WE X a r G fun x r1 G1 => ∃ i, vw r1 x = some (.int i) ∧ Q (.sh (.int (-i))) r1 G1) : WE X (.UnaryOp op a pos) r G Q := fun F0 T F H σ lk S => by
  subst hop
  exact Run.of (pe_un un_neg peR) ((h F0 T F H σ lk S).mono fun va H1 ⟨x, r1, G1, F1, e1, S1, k1, i, h1, h2⟩ => ⟨i, (S1.view k1 h1).int, .sh (.int (-i)), r1, G1, F1, e1, S1, rfl, h2⟩)
end
inductive All2 {A B : Type} (R : A → B → Prop) : List A → List B → Prop
  | nil : All2 R [] []
  | cons {a : A} {b : B} {as : List A} {bs : List B} (h : R a b) (t : All2 R as bs) : All2 R (a :: as) (b :: bs)
section
variable {X : Cy} {e a b c o : Expr} {es : List Expr} {st : Stmt} {sts rest body orelse : List Stmt} {r : Env2} {G : GD} {pos : Pos} {D0 : EndsD}
theorem wb_nil (h : D0.nx r G) : WB X [] r G D0 := fun F0 T F H σ lk S => RunB.of pss_nil ⟨r, G, F, S, h⟩
theorem wb_cons (h : WS X st r G { D0 with nx := fun r1 G1 => WB X rest r1 G1 D0 }) : WB X (st :: rest) r G D0 := fun F0 T F H σ lk S =>
  RunB.of (pss_cons psR pbR) ((h F0 T F H σ lk S).mono (fun σ' H' ⟨r', G', F', S', q⟩ => q F0 T F' H' σ' lk S') (fun _ _ z => z) (fun _ _ z => z) (fun _ _ z => z))
/-- a block's state cut: what holds behind the first statement -/
theorem wb_cut (W : Env2 → GD → Prop) (h : WS X st r G { D0 with nx := W }) (k : ∀ r1 G1, W r1 G1 → WB X rest r1 G1 D0) : WB X (st :: rest) r G D0 := fun F0 T F H σ lk S =>
  RunB.of (pss_cons psR pbR) ((h F0 T F H σ lk S).mono (fun σ' H' ⟨r', G', F', S', q⟩ => k r' G' q F0 T F' H' σ' lk S') (fun _ _ z => z) (fun _ _ z => z) (fun _ _ z => z))
theorem ws_if (h : WT X c r G fun d r1 G1 => (d = true → WB X body r1 G1 D0) ∧ (d = false → WB X orelse r1 G1 D0)) : WS X (.If c body orelse pos) r G D0 := fun F0 T F H σ lk S =>
  RunS.of (ps_if ptR pbR pbR) ((h F0 T F H σ lk S).mono fun d H1 ⟨r1, G1, F1, e1, S1, q1, q2⟩ => by
    cases d with
    | true => rw [if_pos rfl]; exact q1 rfl F0 T F1 H1 σ lk S1
    | false => rw [if_neg Bool.false_ne_true]; exact q2 rfl F0 T F1 H1 σ lk S1)
theorem ws_expr (h : WE X e r G fun _ r1 G1 => D0.nx r1 G1) (hs : swapsWith e none pos.line X.env = pure false := by rfl) : WS X (.Expr e pos) r G D0 := fun F0 T F H σ lk S =>
  RunS.of (ps_expr peR hs) ((h F0 T F H σ lk S).mono fun v H1 ⟨x, r1, G1, F1, e1, S1, k1, q⟩ => ⟨r1, G1, F1, S1, q⟩)
/-- what is handed out -/
def rtS (r : Env2) : Res → Option Res
  | .sh d => some (.sh d)
  | .fr d => some (.fr d)
  | .pk i => match r[i]? with
    | some (.own d) => some (.fr d)
    | _ => none
theorem ws_ret (h : WE X e r G fun x r1 G1 => ∃ y, rtS r1 x = some y ∧ D0.rt y G1) : WS X (.Return (some e) pos) r G D0 := fun F0 T F H σ lk S =>
  RunS.of (ps_ret peR) ((h F0 T F H σ lk S).mono fun v H1 ⟨x, r1, G1, F1, e1, S1, k1, y, q1, q2⟩ => by
    refine ⟨y, G1, F1, S1.bas, ?_, q2⟩
    cases x with
    | sh d => cases q1; exact k1
    | fr d => cases q1; obtain ⟨p, z1, z2, z3, z4, z5, _⟩ := k1; exact ⟨p, z1, z2, z3, z4, z5⟩
    | pk i =>
      obtain ⟨h1, d, h2⟩ := k1
      have q1' : (match r1[i]? with | some (.own d) => some (Res.fr d) | _ => none) = some y := q1
      rw [h2] at q1'
      cases q1'
      obtain ⟨p, z1, z2, z3, z4, z5⟩ := S1.ownS h2
      rw [h1] at z1; cases z1
      exact ⟨p, rfl, z2, z3, z4, z5⟩)
def putS (r : Env2) (i : Nat) : Res → Option Env2
  | .sh d => some (r.set i (.sh d))
  | .fr d => some (r.set i (.own d))
  | .pk j => match r[j]? with
    | some (.own d) => if isDic d then none else some ((r.set j (.sh d)).set i (.sh d))
    | _ => none
theorem Sta.putS {K : PySem.W.Frag} {F0 T F : Hp} {G : GD} {H : Hp} {r r2 : Env2} {σ : L2.St} {x : Res} {v : V} {i : Nat} (S : Sta K F0 T F G H r σ) (h : ResOk K T F G H r σ x v) (hi : i < r.length) (e : putS r i x = some r2) : ∃ F', Ex F F' ∧ Sta K F0 T F' G H r2 (σ.set i (some v)) := by
  cases x with
  | sh d => cases e; exact ⟨F, Ex.refl _, S.set hi ⟨v, rfl, h⟩ fun d' z => nomatch z⟩
  | fr d =>
    cases e
    obtain ⟨p, z1, z2, z3, z4, z5, z6⟩ := h
    subst z1
    exact ⟨F, Ex.refl _, S.set hi ⟨p, rfl, z2, z3, z4, z5⟩ fun d' _ j e' he _ => z6 j e' he⟩
  | pk j =>
    obtain ⟨h1, d, h2⟩ := h
    have e' : (match r[j]? with | some (.own d) => if isDic d then none else some ((r.set j (.sh d)).set i (.sh d)) | _ => none) = some r2 := e
    rw [h2] at e'
    dsimp only at e'
    have hD : isDic d = false := by
      cases hD : isDic d with
      | true => rw [hD] at e'; cases e'
      | false => rfl
    rw [hD] at e'
    cases e'
    obtain ⟨F', k1, k2, v', k3, k4⟩ := S.frzSlot hD h2
    rw [h1] at k3; cases k3
    exact ⟨F', k1, k2.set (by rw [List.length_set]; exact hi) ⟨v, rfl, k4⟩ fun d' z => nomatch z⟩
theorem ws_set (i : Nat) {x : Str} {pos' : Pos} (hN : X.N.Nodup) (hi : X.N[i]? = some x) (hx : Loc X.env.scope x) (h : WE X e r G fun y r1 G1 => i < r1.length ∧ ∃ r2, putS r1 i y = some r2 ∧ D0.nx r2 G1)
    (hs : swapsWith e (some (.Name x pos')) pos.line X.env = pure false := by rfl) (hf : X.fn x = true ∨ X.env.scope.names.lookup x = some .local := by first | exact .inl rfl | exact .inr rfl | assumption) : WS X (.Assign [.Name x pos'] e pos) r G D0 := fun F0 T F H σ lk S =>
  RunS.of (ps_set hN hi hx peR hs hf) ((h F0 T F H σ lk S).mono fun v H1 ⟨y, r1, G1, F1, e1, S1, k1, hi', r2, q1, q2⟩ => by
    obtain ⟨F2, e2, S2⟩ := S1.putS k1 hi' q1
    exact ⟨r2, G1, F2, S2, q2⟩)
/-- targets: names in a row, from frozen data -/
theorem pgs_run : ∀ {tg : List Expr} {ixs : List Nat}, All2 (fun t i => PG X t (gName i)) tg ixs → (∀ t ∈ tg, ∀ ts, (assignEach (t :: ts) X.env).map (·.2) = assign t X.env :: (assignEach ts X.env).map (·.2)) →
    PGs X tg (fun vs σ H Q => vs.length = ixs.length ∧ Q ((ixs.zip vs).foldl (fun s p => s.set p.1 (some p.2)) σ) H)
  | [], [], .nil, _ => ⟨fun pins s σ H vs us Q I rv h => (pgs_nil (X := X)).run pins s σ H vs us Q I rv ⟨List.length_eq_zero_iff.mp h.1, by
      have e : vs = [] := List.length_eq_zero_iff.mp h.1
      subst e
      exact h.2⟩⟩
  | t :: tg, i :: ixs, .cons hp hr, hs => ⟨fun pins s σ H vs us Q I rv h => by
      obtain ⟨hl, q⟩ := h
      cases vs with
      | nil => simp at hl
      | cons v vs =>
        refine (pgs_cons hp (pgs_run hr fun t' ht => hs t' (List.mem_cons_of_mem _ ht)) (hs t List.mem_cons_self tg)).run pins s σ H (v :: vs) us Q I rv ⟨v, vs, rfl, ?_⟩
        exact ⟨by simpa using hl, q⟩⟩
def setAll (r : Env2) : List Nat → List D → Env2
  | i :: is, d :: ds => setAll (r.set i (.sh d)) is ds
  | _, _ => r
theorem Sta.setAll {K : PySem.W.Frag} {F0 T F : Hp} {G : GD} {H : Hp} : ∀ (is : List Nat) (ds : List D) (vs : List V) {r : Env2} {σ : L2.St}, Sta K F0 T F G H r σ → RepL K F ds vs → is.length = ds.length → (∀ i ∈ is, i < r.length) →
    Sta K F0 T F G H (setAll r is ds) ((is.zip vs).foldl (fun s p => s.set p.1 (some p.2)) σ)
  | [], [], vs, r, σ, S, h, _, _ => by
    unfold RB.setAll
    exact S
  | i :: is, d :: ds, vs, r, σ, S, h, hl, hi => by
    obtain ⟨v, vr, rfl, h1, h2⟩ := h
    unfold RB.setAll
    exact Sta.setAll is ds vr (S.set (hi i List.mem_cons_self) ⟨v, rfl, h1⟩ fun d' z => nomatch z) h2 (by simpa using hl) fun j hj => by rw [List.length_set]; exact hi j (List.mem_cons_of_mem _ hj)
  | [], d :: ds, vs, r, σ, S, h, hl, _ => by simp at hl
  | i :: is, [], vs, r, σ, S, h, hl, _ => by simp at hl
/-- a result that is no own slot -/
def nz (r : Env2) : Res → Option (Res × Env2)
  | .sh d => some (.sh d, r)
  | .fr d => some (.fr d, r)
  | .pk i => match r[i]? with
    | some (.own d) => if isDic d then none else some (.sh d, r.set i (.sh d))
    | _ => none
def slO : Res → Sl
  | .sh d => .sh d
  | .fr d => .own d
  | .pk _ => .no
theorem Sta.nz {K : PySem.W.Frag} {F0 T F : Hp} {G : GD} {H : Hp} {r r2 : Env2} {σ : L2.St} {x y : Res} {v : V} (S : Sta K F0 T F G H r σ) (h : ResOk K T F G H r σ x v) (e : nz r x = some (y, r2)) : ∃ F', Ex F F' ∧ Sta K F0 T F' G H r2 σ ∧ ResOk K T F' G H r2 σ y v ∧ ∀ i, y ≠ .pk i := by
  cases x with
  | sh d => cases e; exact ⟨F, Ex.refl _, S, h, fun i z => nomatch z⟩
  | fr d => cases e; exact ⟨F, Ex.refl _, S, h, fun i z => nomatch z⟩
  | pk i =>
    obtain ⟨h1, d, h2⟩ := h
    have e' : (match r[i]? with | some (.own d) => if isDic d then none else some (Res.sh d, r.set i (.sh d)) | _ => none) = some (y, r2) := e
    rw [h2] at e'
    dsimp only at e'
    have hD : isDic d = false := by
      cases hD : isDic d with
      | true => rw [hD] at e'; cases e'
      | false => rfl
    rw [hD] at e'
    cases e'
    obtain ⟨F', k1, k2, v', k3, k4⟩ := S.frzSlot hD h2
    rw [h1] at k3; cases k3
    exact ⟨F', k1, k2, k4, fun i z => nomatch z⟩
theorem holdT {K : PySem.W.Frag} {F0 T F : Hp} {G : GD} {H : Hp} {r : Env2} {σ : L2.St} {z : Res} {v : V} (S : Sta K F0 T F G H r σ) (h : ResOk K T F G H r σ z v) (hz : ∀ i, z ≠ .pk i) :
    ∃ T', Ex T T' ∧ Sta K F0 T' F G H r σ ∧ ∀ (F2 : Hp) (G2 : GD) (H2 : Hp) (r2 : Env2) (σ2 : L2.St), Ex F F2 → Sta K F0 T' F2 G2 H2 r2 σ2 → Sta K F0 T F2 G2 H2 r2 σ2 ∧ ResOk K T F2 G2 H2 r2 σ2 z v ∧
      ∀ (z2 : Res) (v2 : V), ResOk K T' F2 G2 H2 r2 σ2 z2 v2 → ResOk K T F2 G2 H2 r2 σ2 z2 v2 ∧ ∀ d d2, z = .fr d → z2 = .fr d2 → v ≠ v2 := by
  cases z with
  | pk i => exact absurd rfl (hz i)
  | sh d => exact ⟨T, Ex.refl _, S, fun F2 G2 H2 r2 σ2 ex S2 => ⟨S2, Rep.mono ex _ _ h, fun z2 v2 k => ⟨k, fun d d2 q => nomatch q⟩⟩⟩
  | fr d =>
    obtain ⟨p, rfl, z2, z3, z4, z5, z6⟩ := h
    obtain ⟨o, ho⟩ := z2.there
    refine ⟨upd T p o, Ex.new z5, ?_, ?_⟩
    · refine ⟨⟨S.bas.ff, fun q u hq => ?_, S.bas.fh, S.bas.gh, S.bas.fg, fun q u hq => ?_, fun q u hq => ?_⟩, S.len, fun i s hs => ?_, S.ap⟩
      · have hqp : q ≠ p := fun zz => by subst zz; rw [z3] at hq; cases hq
        rw [upd_ne hqp]
        exact S.bas.ft q u hq
      · have hqp : q ≠ p := fun zz => by subst zz; rw [z4] at hq; cases hq
        rw [upd_ne hqp]
        exact S.bas.gt q u hq
      · by_cases hqp : q = p
        · subst hqp; rw [upd_same] at hq; cases hq; exact ho
        · rw [upd_ne hqp] at hq; exact S.bas.tk q u hq
      · have hh := S.sl i s hs
        cases s with
        | no => trivial
        | sh d => exact hh
        | own d =>
          obtain ⟨p', y1, y2, y3, y4, y5⟩ := hh
          have hqp : p' ≠ p := fun zz => by subst zz; exact z6 i d hs y1
          exact ⟨p', y1, y2, y3, y4, by rw [upd_ne hqp]; exact y5⟩
    · intro F2 G2 H2 r2 σ2 ex S2
      have tsub : ∀ q u, T q = some u → upd T p o q = some u := fun q u hq => by
        have hqp : q ≠ p := fun zz => by subst zz; rw [z5] at hq; cases hq
        rw [upd_ne hqp]; exact hq
      have tdown : ∀ q, upd T p o q = none → T q = none := fun q hq => by
        cases hf : T q with
        | none => rfl
        | some u => rw [tsub q u hf] at hq; cases hq
      have tp : ∀ q, upd T p o q = none → q ≠ p := fun q hq zz => by subst zz; rw [upd_same] at hq; cases hq
      have fp : F2 p = none := by
        cases hf : F2 p with
        | none => rfl
        | some u =>
          rcases S2.bas.ft p u hf with zz | zz
          · have := S.bas.ff p u zz
            rw [z3] at this; cases this
          · exact absurd rfl (tp p zz)
      have gp : G2 p = none := by
        cases hf : G2 p with
        | none => rfl
        | some u => exact absurd rfl (tp p (S2.bas.gt p u hf))
      refine ⟨⟨⟨S2.bas.ff, fun q u hq => (S2.bas.ft q u hq).imp id (tdown q), S2.bas.fh, S2.bas.gh, S2.bas.fg, fun q u hq => tdown q (S2.bas.gt q u hq), fun q u hq => S2.bas.tk q u (tsub q u hq)⟩, S2.len, fun i s hs => ?_, S2.ap⟩, ⟨p, rfl, z2.mono ex fun u hu => by rw [ho] at hu; cases hu; exact S2.bas.tk p o upd_same, fp, gp, z5, fun k d' hk zz => ?_⟩, fun z2' v2 k => ?_⟩
      · have hh := S2.sl i s hs
        cases s with
        | no => trivial
        | sh d => exact hh
        | own d =>
          obtain ⟨p', k1, k2, k3, k4, k5⟩ := hh
          exact ⟨p', k1, k2, k3, k4, tdown p' k5⟩
      · obtain ⟨p', k1, _, _, _, k5⟩ := S2.ownS hk
        rw [zz] at k1; cases k1
        exact tp p k5 rfl
      · cases z2' with
        | sh d => exact ⟨k, fun d d2 _ q => nomatch q⟩
        | pk i => exact ⟨k, fun d d2 _ q => nomatch q⟩
        | fr d' =>
          obtain ⟨p2, rfl, k2, k3, k4, k5, k6⟩ := k
          exact ⟨⟨p2, rfl, k2, k3, k4, tdown p2 k5, k6⟩, fun _ _ _ _ zz => by cases zz; exact tp p k5 rfl⟩
/-- a held result goes to a slot -/
theorem Sta.setR {K : PySem.W.Frag} {F0 T F : Hp} {G : GD} {H : Hp} {r : Env2} {σ : L2.St} {z : Res} {v : V} {i : Nat} (S : Sta K F0 T F G H r σ) (h : ResOk K T F G H r σ z v) (hi : i < r.length) (hz : ∀ i, z ≠ .pk i) : Sta K F0 T F G H (r.set i (slO z)) (σ.set i (some v)) := by
  cases z with
  | pk j => exact absurd rfl (hz j)
  | sh d => exact S.set hi ⟨v, rfl, h⟩ fun d' z => nomatch z
  | fr d =>
    obtain ⟨p, rfl, z2, z3, z4, z5, z6⟩ := h
    exact S.set hi ⟨p, rfl, z2, z3, z4, z5⟩ fun d' _ j e' he _ => z6 j e' he
/-- .. and another held one stays good -/
theorem ResOk.setR {K : PySem.W.Frag} {T F : Hp} {G : GD} {H : Hp} {r : Env2} {σ : L2.St} {z z2 : Res} {v v2 : V} {i : Nat} (h2 : ResOk K T F G H r σ z2 v2) (hi : i < r.length) (hl : r.length = σ.length) (hz : ∀ i, z ≠ .pk i) (hz2 : ∀ i, z2 ≠ .pk i) (hd : ∀ d d2, z = .fr d → z2 = .fr d2 → v ≠ v2) :
    ResOk K T F G H (r.set i (slO z)) (σ.set i (some v)) z2 v2 := by
  cases z2 with
  | pk j => exact absurd rfl (hz2 j)
  | sh d => exact h2
  | fr d =>
    obtain ⟨p, rfl, k2, k3, k4, k5, k6⟩ := h2
    refine ⟨p, rfl, k2, k3, k4, k5, fun k e' he zz => ?_⟩
    by_cases hki : i = k
    · subst hki
      rw [List.getElem?_set_self hi] at he
      rw [List.getElem?_set_self (by rw [← hl]; exact hi)] at zz
      cases z with
      | pk j => exact hz j rfl
      | sh d' => cases he
      | fr d' => cases zz; exact hd d' d rfl rfl rfl
    · rw [List.getElem?_set_ne hki] at he zz
      exact k6 k e' he zz
end
def isort (ns : List Int) : List Int := ns.mergeSort fun a b => decide (a ≤ b)
theorem isort_perm (ns : List Int) : (isort ns).Perm ns := List.mergeSort_perm ns _
theorem isort_sorted (ns : List Int) : (isort ns).Pairwise (· ≤ ·) := by
  have h := List.pairwise_mergeSort (le := fun a b : Int => decide (a ≤ b)) (fun a b c h1 h2 => by simp at *; omega) (fun a b => by simp; omega) ns
  exact h.imp fun h => by simpa using h
theorem sorted_unique : ∀ {xs ys : List Int}, xs.Perm ys → xs.Pairwise (· ≤ ·) → ys.Pairwise (· ≤ ·) → xs = ys := fun {xs ys} p h1 h2 =>
  List.Perm.eq_of_pairwise (le := (· ≤ ·)) (fun a b _ _ h h' => Int.le_antisymm h h') h1 h2 p
theorem isort_of {xs ys : List Int} (p : xs.Perm ys) (h : xs.Pairwise (· ≤ ·)) : xs = isort ys := sorted_unique (p.trans (isort_perm ys).symm) h (isort_sorted ys)
theorem isort_length (ns : List Int) : (isort ns).length = ns.length := (isort_perm ns).length_eq
section
variable {X : Cy} {e a b c o : Expr} {es : List Expr} {st : Stmt} {sts rest body orelse : List Stmt} {r : Env2} {G : GD} {pos p0 : Pos} {D0 : EndsD} {Q : Res → Prop}
def CallW1 (X : Cy) (f : Value) (d : D) (Q : Res → Prop) : Prop :=
  ∀ (F0 T F : Hp) (G : GD) (H : Hp) (r : Env2) (σ : L2.St) (v : V), Sta X.K F0 T F G H r σ → Vw X.K F H d v →
    ∃ rr : List V → Hp → VK → Prop, CallR X f rr ∧ rr [v] H (fun v' H' => ∃ x F', Ex F F' ∧ Sta X.K F0 T F' G H' r σ ∧ ResOk X.K T F' G H' r σ x v' ∧ Q x)
def callU (X : Cy) (f : Value) : List V → Hp → VK → Prop := fun vs H Q => ∃ rr : List V → Hp → VK → Prop, CallR X f rr ∧ rr vs H Q
theorem callU_ok (f : Value) : CallR X f (callU X f) := fun pins s σ H xs us Q I rv ⟨rr, h1, h2⟩ => h1 pins s σ H xs us Q I rv h2
theorem CallR.post {f : Value} {rr : List V → Hp → VK → Prop} (h : CallR X f rr) (P : VK) : CallR X f (fun vs H Q' => rr vs H P ∧ ∀ v H', P v H' → Q' v H') := fun pins s σ H xs us Q' I rv ⟨q, m⟩ =>
  wpAny_mono (h pins s σ H xs us P I rv q) (fun _ _ ⟨v, H', I', rl, q⟩ => ⟨v, H', I', rl, m v H' q⟩) fun _ _ x => x
theorem one1 {f : Value} {Q : Res → Env2 → GD → Prop} {F0 T F H : Hp} {σ : L2.St} (lk : Lk X F0 T) (S : Sta X.K F0 T F G H r σ) (h : WE X e r G fun x r1 G1 => ∃ d, VwR r1 G1 x d ∧ CallW1 X f d fun z => Q z r1 G1) :
    tCB (callU X f) (tCons (Run X e) tNil) σ H (PostE X.K F0 T F σ Q) := by
  refine (h F0 T F H σ lk S).mono fun v H1 ⟨x, r1, G1, F1, e1, S1, k1, d, q1, q2⟩ => ?_
  obtain ⟨rr, h3, h4⟩ := q2 F0 T F1 G1 H1 r1 σ v S1 (S1.viewR k1 q1)
  exact ⟨_, CallR.post h3 _, h4, fun v H' ⟨z, F', m1, m2, m3, m4⟩ => ⟨z, r1, G1, F', e1.trans m1, m2, m3, m4⟩⟩
theorem we_b1 {x : Str} {id : String} {Q : Res → Env2 → GD → Prop} (hg : Gl X x) (hm : X.mg x = none) (hv : bootBuiltins x = some (.builtin id)) (h : WE X e r G fun x r1 G1 => ∃ d, VwR r1 G1 x d ∧ CallW1 X (.builtin id) d fun z => Q z r1 G1)
    (hn : x ≠ "__name__" := by decide) (hdb : (x == ("__debug__" : Str)) = false := by decide) (he : starEach [e] X.env = (false, eval e X.env) :: starEach [] X.env := by rfl) (hpl : (backTo pos (starEach [] X.env)).any (·.1) = false := by rfl) :
    WE X (.Call (.Name x p0) [e] [] pos) r G Q := fun F0 T F H σ lk S => Run.of (pe_callB (callU_ok _) hg hm hv (pa_cons peR pa_nil he) hn hdb he hpl) (one1 lk S h)
theorem we_t1 {x : Str} {id : String} {Q : Res → Env2 → GD → Prop} (hg : Gl X x) (hm : X.mg x = none) (hv : bootBuiltins x = some (.type id)) (h : WE X e r G fun x r1 G1 => ∃ d, VwR r1 G1 x d ∧ CallW1 X (.type id) d fun z => Q z r1 G1)
    (hn : x ≠ "__name__" := by decide) (hdb : (x == ("__debug__" : Str)) = false := by decide) (he : starEach [e] X.env = (false, eval e X.env) :: starEach [] X.env := by rfl) (hpl : (backTo pos (starEach [] X.env)).any (·.1) = false := by rfl) :
    WE X (.Call (.Name x p0) [e] [] pos) r G Q := fun F0 T F H σ lk S => Run.of (pe_callTy (callU_ok _) hg hm hv (pa_cons peR pa_nil he) hn hdb he hpl) (one1 lk S h)
theorem c1_flat {f : Value} {d d' : D} {v' : V} (hd : ∀ K F, Rep K F d' v') (h : ∀ F H v, Ex F H → Vw X.K F H d v → ∃ rr, CallR X f rr ∧ ∀ P : VK, P v' H → rr [v] H P) (q : Q (.sh d')) : CallW1 X f d Q :=
  fun F0 T F G H r σ v S h1 => by
    obtain ⟨rr, k1, k2⟩ := h F H v S.bas.fh h1
    exact ⟨rr, k1, k2 _ ⟨.sh d', F, Ex.refl _, S, hd _ _, q⟩⟩
theorem c_len {ds : List D} (q : Q (.sh (.int (ds.length : Nat)))) : CallW1 X (.builtin "len") (.lst ds) Q :=
  c1_flat (d' := .int (ds.length : Nat)) (v' := .int (ds.length : Nat)) (fun _ _ => rfl) (fun F H v ex h => by
    obtain ⟨p, vs, rfl, k1, k2⟩ := h.lst ex
    exact ⟨_, call_len_seq, fun P hp => ⟨p, vs, rfl, .inl (.inl k1), by rw [k2.length]; exact hp⟩⟩) q
theorem c_lenT {ds : List D} (q : Q (.sh (.int (ds.length : Nat)))) : CallW1 X (.builtin "len") (.tup ds) Q :=
  c1_flat (d' := .int (ds.length : Nat)) (v' := .int (ds.length : Nat)) (fun _ _ => rfl) (fun F H v ex h => by
    obtain ⟨p, vs, rfl, k1, k2⟩ := h.tup ex
    exact ⟨_, call_len_seq, fun P hp => ⟨p, vs, rfl, .inr k1, by rw [k2.length]; exact hp⟩⟩) q
theorem c_abs {i : Int} (q : Q (.sh (.int (if i < 0 then -i else i)))) : CallW1 X (.builtin "abs") (.int i) Q :=
  c1_flat (d' := .int (if i < 0 then -i else i)) (v' := .int (if i < 0 then -i else i)) (fun _ _ => rfl) (fun F H v ex h => ⟨_, call_abs, fun P hp => ⟨i, by rw [h.int], hp⟩⟩) q
theorem c_int {i : Int} (q : Q (.sh (.int i))) : CallW1 X (.type "int") (.int i) Q :=
  c1_flat (d' := .int i) (v' := .int i) (fun _ _ => rfl) (fun F H v ex h => ⟨_, call_int1, fun P hp => .inl ⟨i, by rw [h.int], hp⟩⟩) q
theorem c_intB {i : Bool} (q : Q (.sh (.int (if i then 1 else 0)))) : CallW1 X (.type "int") (.bl i) Q :=
  c1_flat (d' := .int (if i then 1 else 0)) (v' := .int (if i then 1 else 0)) (fun _ _ => rfl) (fun F H v ex h => ⟨_, call_int1, fun P hp => .inr ⟨i, by rw [h.bl], hp⟩⟩) q
/-- a new list, a new tuple as the result -/
theorem new_lst {K : PySem.W.Frag} {F0 T F : Hp} {G : GD} {H : Hp} {r : Env2} {σ : L2.St} (S : Sta K F0 T F G H r σ) {ds : List D} {vs : List V} (h : RepL K F ds vs) {p : Addr} (hp : H p = none) {Q : Res → Prop} (q : Q (.fr (.lst ds))) :
    ∃ x F', Ex F F' ∧ Sta K F0 T F' G (upd H p (.lst vs)) r σ ∧ ResOk K T F' G (upd H p (.lst vs)) r σ x (.ref p) ∧ Q x := by
  obtain ⟨f1, f2, f3⟩ := S.bas.freshF hp
  exact ⟨.fr (.lst ds), F, Ex.refl _, S.newH hp, ⟨p, rfl, ⟨vs, upd_same, h⟩, f1, f2, f3, S.freshR hp⟩, q⟩
theorem new_tup {K : PySem.W.Frag} {F0 T F : Hp} {G : GD} {H : Hp} {r : Env2} {σ : L2.St} (S : Sta K F0 T F G H r σ) {ds : List D} {vs : List V} (h : RepL K F ds vs) {p : Addr} (hp : H p = none) {Q : Res → Prop} (q : Q (.sh (.tup ds))) :
    ∃ x F', Ex F F' ∧ Sta K F0 T F' G (upd H p (.tup vs)) r σ ∧ ResOk K T F' G (upd H p (.tup vs)) r σ x (.ref p) ∧ Q x := by
  have ef : Ex F (upd F p (.tup vs)) := Ex.new (S.bas.freshF hp).1
  exact ⟨.sh (.tup ds), upd F p (.tup vs), ef, S.newF hp, ⟨p, vs, rfl, .inl (.inl upd_same), RepL.mono ef _ _ h⟩, q⟩
theorem c_list {ds : List D} (q : Q (.fr (.lst ds))) : CallW1 X (.type "list") (.lst ds) Q := fun F0 T F G H r σ v S h => by
  obtain ⟨p, vs, rfl, k1, k2⟩ := h.lst S.bas.fh
  exact ⟨_, call_list_of, p, vs, rfl, .inl (.inl k1), fun l hl => new_lst S k2 hl q⟩
theorem c_listT {ds : List D} (q : Q (.fr (.lst ds))) : CallW1 X (.type "list") (.tup ds) Q := fun F0 T F G H r σ v S h => by
  obtain ⟨p, vs, rfl, k1, k2⟩ := h.tup S.bas.fh
  exact ⟨_, call_list_of, p, vs, rfl, .inr k1, fun l hl => new_lst S k2 hl q⟩
theorem c_tuple {ds : List D} (q : Q (.sh (.tup ds))) : CallW1 X (.type "tuple") (.lst ds) Q := fun F0 T F G H r σ v S h => by
  obtain ⟨p, vs, rfl, k1, k2⟩ := h.lst S.bas.fh
  exact ⟨_, call_tuple_of, p, vs, rfl, .inl ⟨.inl k1, fun l hl => new_tup S k2 hl q⟩⟩
theorem c_sorted {ns : List Int} (q : Q (.fr (.lst ((isort ns).map D.int)))) : CallW1 X (.builtin "sorted") (.lst (ns.map D.int)) Q := fun F0 T F G H r σ v S h => by
  obtain ⟨p, vs, rfl, k1, k2⟩ := h.lst S.bas.fh
  cases k2.ints
  refine ⟨_, cr_sortedI, p, ns, rfl, .inl k1, fun ns' l p1 p2 hl => ?_⟩
  cases isort_of p1 p2
  exact new_lst S (RepL.of_ints _) hl q
theorem inV_ints (i : Int) : ∀ ns : List Int, inV (.int i) (ns.map V.int) = decide (i ∈ ns)
  | [] => by simp [inV]
  | n :: ns => by
    have ih := inV_ints i ns
    unfold inV at ih ⊢
    rw [List.map_cons, List.any_cons, ih]
    have e1 : eqV (.int n) (.int i) = decide (i = n) := by
      show (n == i) = decide (i = n)
      by_cases h : n = i
      · subst h; simp
      · have h2 : ¬ i = n := fun z => h z.symm
        simp [h, h2]
    rw [e1]
    by_cases h : i = n
    · subst h; simp
    · simp [h]
theorem flat_ints (ns : List Int) : (ns.map V.int).all flatV = true := by
  induction ns with
  | nil => rfl
  | cons n ns ih => rw [List.map_cons, List.all_cons, ih]; rfl
theorem opw_nin {i : Int} {ns : List Int} (q : Q (.sh (.bl (!decide (i ∈ ns))))) : OpW X (compareOp .NotIn) (.int i) (.lst (ns.map D.int)) Q :=
  opw_flat (d := .bl (!decide (i ∈ ns))) (v := .bl (!decide (i ∈ ns))) (fun _ _ => rfl) (fun F H va vb ex h1 h2 => by
    obtain ⟨p, vs, rfl, k1, k2⟩ := h2.lst ex
    cases h1.int
    cases k2.ints
    exact ⟨_, op_notIn_seq, fun P hp => ⟨p, _, rfl, .inl (.inl k1), rfl, flat_ints ns, by rw [if_pos rfl, inV_ints]; exact hp⟩⟩) q
theorem opw_ninT {i : Int} {ns : List Int} (q : Q (.sh (.bl (!decide (i ∈ ns))))) : OpW X (compareOp .NotIn) (.int i) (.tup (ns.map D.int)) Q :=
  opw_flat (d := .bl (!decide (i ∈ ns))) (v := .bl (!decide (i ∈ ns))) (fun _ _ => rfl) (fun F H va vb ex h1 h2 => by
    obtain ⟨p, vs, rfl, k1, k2⟩ := h2.tup ex
    cases h1.int
    cases k2.ints
    exact ⟨_, op_notIn_seq, fun P hp => ⟨p, _, rfl, .inr k1, rfl, flat_ints ns, by rw [if_pos rfl, inV_ints]; exact hp⟩⟩) q
def cutD (xs : List D) (lo hi : Option Int) : List D := (xs.drop (HT.sIx xs.length 0 lo)).take (HT.sIx xs.length xs.length hi - HT.sIx xs.length 0 lo)
theorem cut_rep {K : PySem.W.Frag} {F : Hp} {ds : List D} {vs : List V} (h : RepL K F ds vs) (lo hi : Option Int) : RepL K F (cutD ds lo hi) (cutV vs lo hi) := by
  unfold cutD cutV
  rw [h.length]
  exact (h.drop _).take _
def RunO (X : Cy) (oe : Option Expr) : TO := fun σ H Q => ∀ (pins : List (Addr × Obj)) (s : Shared), Inv X pins σ H s → wpAny (model X.prog X.w) X.A (evalPart oe X.env) (fun u s' => ∃ o H', Inv X pins σ H' s' ∧ IsPart u o ∧ Q o H') X.xe s
theorem poR {oe : Option Expr} : PO X oe (RunO X oe) := ⟨fun pins s _ _ _ I h => h pins s I⟩
def WO (X : Cy) (oe : Option Expr) (r : Env2) (G : GD) (Q : Option Int → Env2 → GD → Prop) : Prop :=
  ∀ (F0 T F H : Hp) (σ : L2.St), Lk X F0 T → Sta X.K F0 T F G H r σ → RunO X oe σ H (fun o H' => ∃ r' G' F', Ex F F' ∧ Sta X.K F0 T F' G' H' r' σ ∧ Q o r' G')
theorem RunO.mono {oe : Option Expr} {σ : L2.St} {H : Hp} {Q Q' : Option Int → Hp → Prop} (h : RunO X oe σ H Q) (k : ∀ v H', Q v H' → Q' v H') : RunO X oe σ H Q' := fun pins s I =>
  wpAny_mono (h pins s I) (fun _ _ ⟨o, H', I', p, q⟩ => ⟨o, H', I', p, k _ H' q⟩) fun _ _ x => x
theorem wo_none {Q : Option Int → Env2 → GD → Prop} (q : Q none r G) : WO X none r G Q := fun F0 T F H σ lk S pins s I => po_none.run pins s σ H _ I ⟨r, G, F, Ex.refl _, S, q⟩
theorem wo_some {Q : Option Int → Env2 → GD → Prop} (h : WE X e r G fun x r1 G1 => ∃ i, vw r1 x = some (.int i) ∧ Q (some i) r1 G1) : WO X (some e) r G Q := fun F0 T F H σ lk S pins s I =>
  (po_some peR).run pins s σ H _ I ((h F0 T F H σ lk S).mono fun v H1 ⟨x, r1, G1, F1, e1, S1, k1, i, q1, q2⟩ => ⟨i, (S1.view k1 q1).int, r1, G1, F1, e1, S1, q2⟩)
def SlW (X : Cy) (d : D) (lo hi : Option Int) (Q : Res → Prop) : Prop :=
  ∀ (F0 T F : Hp) (G : GD) (H : Hp) (r : Env2) (σ : L2.St) (v : V), Sta X.K F0 T F G H r σ → Vw X.K F H d v →
    ∃ rr, L2.SlR X rr ∧ rr v lo hi H (fun v' H' => ∃ x F', Ex F F' ∧ Sta X.K F0 T F' G H' r σ ∧ ResOk X.K T F' G H' r σ x v' ∧ Q x)
def slU (X : Cy) : V → Option Int → Option Int → Hp → VK → Prop := fun x lo hi H Q => ∃ rr, L2.SlR X rr ∧ rr x lo hi H Q
theorem SlR.post {rr : V → Option Int → Option Int → Hp → VK → Prop} (h : L2.SlR X rr) (P : VK) : L2.SlR X (fun x lo hi H Q' => rr x lo hi H P ∧ ∀ v H', P v H' → Q' v H') := fun pins s σ H x v vl vu lo hi sl Q' I rx hs pl pu ⟨q, m⟩ => by
  obtain ⟨T, id, h1, h2, h3⟩ := h pins s σ H x v vl vu lo hi sl P I rx hs pl pu q
  exact ⟨T, id, h1, h2, wpAny_mono h3 (fun _ _ ⟨v, H', I', rl, q⟩ => ⟨v, H', I', rl, m v H' q⟩) fun _ _ x => x⟩
theorem slU_ok : L2.SlR X (slU X) := fun pins s σ H x v vl vu lo hi sl Q I rx hs pl pu ⟨rr, h1, h2⟩ => h1 pins s σ H x v vl vu lo hi sl Q I rx hs pl pu h2
theorem we_slice {lo hi : Option Expr} {p2 : Pos} {Q : Res → Env2 → GD → Prop} (h : WE X a r G fun x r1 G1 => WO X lo r1 G1 fun l r2 G2 => WO X hi r2 G2 fun u r3 G3 => ∃ d, VwR r3 G3 x d ∧ SlW X d l u fun z => Q z r3 G3) :
    WE X (.Subscript a (.Slice lo hi none p2) pos) r G Q := fun F0 T F H σ lk S => Run.of (pe_slice slU_ok peR poR poR) (by
  refine (h F0 T F H σ lk S).mono fun va H1 ⟨x, r1, G1, F1, e1, S1, k1, h1⟩ => ?_
  obtain ⟨F1', e1', S1', hv⟩ := hold S1 k1
  refine (h1 F0 T F1' H1 σ lk S1').mono fun l H2 ⟨r2, G2, F2, e2, S2, h2⟩ => ?_
  refine (h2 F0 T F2 H2 σ lk S2).mono fun u H3 ⟨r3, G3, F3, e3, S3, d, q1, q2⟩ => ?_
  obtain ⟨rr, h3, h4⟩ := q2 F0 T F3 G3 H3 r3 σ va S3 (hv F3 G3 H3 r3 d (e2.trans e3) S3 q1)
  exact ⟨_, SlR.post h3 _, h4, fun v H' ⟨z, F', m1, m2, m3, m4⟩ => ⟨z, r3, G3, F', (((e1.trans e1').trans e2).trans e3).trans m1, m2, m3, m4⟩⟩)
theorem slw_lst {ds : List D} {lo hi : Option Int} (q : Q (.fr (.lst (cutD ds lo hi)))) : SlW X (.lst ds) lo hi Q := fun F0 T F G H r σ v S h => by
  obtain ⟨p, vs, rfl, k1, k2⟩ := h.lst S.bas.fh
  exact ⟨_, sl_list, p, vs, rfl, .inl k1, fun l hl => new_lst S (cut_rep k2 lo hi) hl q⟩
theorem slw_tup {ds : List D} {lo hi : Option Int} (q : Q (.sh (.tup (cutD ds lo hi)))) : SlW X (.tup ds) lo hi Q := fun F0 T F G H r σ v S h => by
  have rp : Rep X.K F (.tup ds) v := by
    rcases h with h | ⟨_, _, h⟩
    · exact h
    · exact h.elim
  obtain ⟨p, vs, rfl, k1, k2⟩ := h.tup S.bas.fh
  refine ⟨_, sl_tupA, p, vs, rfl, k1, fun hw => ?_, fun _ l hl => new_tup S (cut_rep k2 lo hi) hl q⟩
  have ec : cutD ds lo hi = ds := by
    unfold cutD
    rw [← k2.length, hw.1, hw.2]
    simp [k2.length]
  rw [ec] at q
  exact ⟨.sh (.tup ds), F, Ex.refl _, S, rp, q⟩
end
theorem Bas.base {F0 T F : Hp} {G : GD} {H : Hp} {K : PySem.W.Frag} (B : Bas K F0 T F G H) : Bas K F T F G H := ⟨Ex.refl _, fun _ _ h => .inl h, B.fh, B.gh, B.fg, B.gt, B.tk⟩
theorem Bas.back {F0 T F1 : Hp} {G1 : GD} {H1 F : Hp} {G : GD} {H : Hp} {K : PySem.W.Frag} (B : Bas K F0 T F1 G1 H1) (C : Bas K F1 T F G H) : Bas K F0 T F G H :=
  ⟨B.ff.trans C.ff, fun a o h => (C.ft a o h).elim (fun z => B.ft a o z) .inr, C.fh, C.gh, C.fg, C.gt, C.tk⟩
theorem Sta.base {K : PySem.W.Frag} {F0 T F : Hp} {G : GD} {H : Hp} {r : Env2} {σ : L2.St} (S : Sta K F0 T F G H r σ) : Sta K F T F G H r σ := ⟨S.bas.base, S.len, S.sl, S.ap⟩
theorem Sta.back {K : PySem.W.Frag} {F0 T F1 : Hp} {G1 : GD} {H1 F : Hp} {G : GD} {H : Hp} {r : Env2} {σ : L2.St} (B : Bas K F0 T F1 G1 H1) (S : Sta K F1 T F G H r σ) : Sta K F0 T F G H r σ := ⟨B.back S.bas, S.len, S.sl, S.ap⟩
theorem at_back {K : PySem.W.Frag} {F0 T F1 : Hp} {G1 : GD} {H1 : Hp} (B : Bas K F0 T F1 G1 H1) {Q : Env2 → GD → Prop} {σ : L2.St} {H : Hp} (h : PostN K F1 T Q σ H) : PostN K F0 T Q σ H := by
  obtain ⟨r, G, F, S, q⟩ := h
  exact ⟨r, G, F, S.back B, q⟩
theorem rt_back {K : PySem.W.Frag} {F0 T F1 : Hp} {G1 : GD} {H1 : Hp} (B : Bas K F0 T F1 G1 H1) {Q : Res → GD → Prop} {v : V} {H : Hp} (h : PostR K F1 T Q v H) : PostR K F0 T Q v H := by
  obtain ⟨x, G, F, C, k, q⟩ := h
  exact ⟨x, G, F, B.back C, k, q⟩
def RunG (X : Cx) (tg : Expr) : TG := fun v σ H Q => ∀ (pins : List (Addr × Obj)) (s : Shared) (u : Value), Inv X pins σ H s → RelV v u → wpAny (model X.prog X.w) X.A (assign tg X.env u) (fun _ s' => ∃ σ' H', Inv X pins σ' H' s' ∧ Q σ' H') X.xe s
theorem pgR {X : Cx} {tg : Expr} : PG X tg (RunG X tg) := ⟨fun pins s σ H v u Q I rv h => h pins s u I rv⟩
/-- frozen data goes to a target; σ' differs from σ in the slots is alone -/
def WG (X : Cy) (tg : Expr) (d : D) (r : Env2) (G : GD) (is : List Nat) (Q : Env2 → GD → Prop) : Prop :=
  ∀ (F0 T F H : Hp) (σ : L2.St) (v : V), Lk X F0 T → Sta X.K F0 T F G H r σ → Rep X.K F d v → RunG X tg v σ H (fun σ' H' => wipe σ' is = wipe σ is ∧ ∃ r' G' F', Ex F F' ∧ Sta X.K F0 T F' G' H' r' σ' ∧ Q r' G')
theorem wipe_set {σ : L2.St} {i : Nat} {x : Option V} : ∀ {is : List Nat}, i ∈ is → wipe (σ.set i x) is = wipe σ is
  | [], h => by simp at h
  | j :: is, h => by
    unfold wipe
    by_cases hm : i ∈ is
    · rw [wipe_set hm]
    · have hj : i = j := by
        rcases List.mem_cons.mp h with z | z
        · exact z
        · exact absurd z hm
      subst hj
      have aux : ∀ (is : List Nat), i ∉ is → wipe (σ.set i x) is = (wipe σ is).set i x := by
        intro is
        induction is with
        | nil => intro _; rfl
        | cons k is ih =>
          intro hk
          unfold wipe
          rw [ih (fun z => hk (List.mem_cons_of_mem _ z)), List.set_comm _ _ (fun z => hk (by rw [z]; exact List.mem_cons_self))]
      rw [aux is hm, List.set_set]
section
variable {X : Cy} {e a b c o tg : Expr} {es : List Expr} {st : Stmt} {sts rest body orelse : List Stmt} {r : Env2} {G : GD} {pos p0 : Pos} {D0 : EndsD}
theorem wg_name (i : Nat) {x : Str} {d : D} {is : List Nat} {Q : Env2 → GD → Prop} (hN : X.N.Nodup) (hi : X.N[i]? = some x) (hx : Loc X.env.scope x) (hm : i ∈ is) (hl : i < r.length) (q : Q (r.set i (.sh d)) G) (hf : X.fn x = true ∨ X.env.scope.names.lookup x = some .local := by first | exact .inl rfl | exact .inr rfl | assumption) :
    WG X (.Name x pos) d r G is Q := fun F0 T F H σ v lk S rp pins s u I rv => by
  refine (pg_name hN hi hx hf).run pins s σ H v u _ I rv ⟨wipe_set hm, r.set i (.sh d), G, F, Ex.refl _, S.set hl ⟨v, rfl, rp⟩ (fun d' z => nomatch z), q⟩
theorem fold_wipe : ∀ (ixs : List Nat) (vs : List V) (σ : L2.St) {is : List Nat}, (∀ i ∈ ixs, i ∈ is) → wipe ((ixs.zip vs).foldl (fun s p => s.set p.1 (some p.2)) σ) is = wipe σ is
  | [], _, _, _, _ => by simp
  | _ :: _, [], _, _, _ => by simp
  | i :: ixs, v :: vs, σ, is, h => by
    rw [List.zip_cons_cons, List.foldl_cons, fold_wipe ixs vs _ fun j hj => h j (List.mem_cons_of_mem _ hj)]
    exact wipe_set (h i List.mem_cons_self)
theorem wg_tup {ts : List Expr} {k : Nat} (ixs : List Nat) {ds : List D} {is : List Nat} {Q : Env2 → GD → Prop} (hc : X.calm = true) (hp : All2 (fun t i => PG X t (gName i)) ts ixs) (hst : ∀ t ∈ ts, ∀ us, (assignEach (t :: us) X.env).map (·.2) = assign t X.env :: (assignEach us X.env).map (·.2))
    (hm : ∀ i ∈ ixs, i ∈ is) (hl : ds.length = ixs.length) (hr : ∀ i ∈ ixs, i < r.length) (q : Q (setAll r ixs ds) G) (hn : (assignEach ts X.env).length = ixs.length := by rfl) (hf : (assignEach ts X.env).findIdx? (·.1) = none := by rfl) :
    WG X (.Tuple ts k pos) (.tup ds) r G is Q := fun F0 T F H σ v lk S rp pins s u I rv => by
  obtain ⟨a, vs, rfl, z1, z2⟩ := rp
  refine (pg_tup hc (pgs_run hp hst) hn hf).run pins s σ H _ u _ I rv ⟨a, vs, rfl, S.bas.fh.sqT z1, by rw [z2.length]; exact hl, by rw [z2.length]; exact hl, fold_wipe ixs vs σ hm, _, G, F, Ex.refl _, S.setAll ixs ds vs z2 hl.symm hr, q⟩
/-- a turn of a loop: the item goes to the target, the body runs -/
theorem turn1 {d : D} {v : V} {is : List Nat} {F0 T Fa : Hp} {Ga : GD} {Ha F H : Hp} {σ : L2.St} {I : Env2 → GD → Prop} (lk : Lk X F0 T) (B : Bas X.K F0 T Fa Ga Ha) (S : Sta X.K Fa T F G H r σ) (rp : Rep X.K F d v) (h : WG X tg d r G is fun r1 G1 => WB X body r1 G1 { D0 with nx := I, ct := I, bk := D0.nx }) {P : L2.St → Hp → Prop}
    (hP : ∀ σ' H', PostN X.K Fa T I σ' H' → P σ' H') : RunG X tg v σ H fun σ2 H2 => RunB X body { D0.at X.K F0 T with nx := P, ct := P, bk := (D0.at X.K F0 T).nx } σ2 H2 := fun pins s u J rv => by
  refine wpAny_mono (h Fa T F H σ v (lk.base B) S rp pins s u J rv) (fun _ s' ⟨σ', H', J', _, r', G', F', e', S', q⟩ => ⟨σ', H', J', ?_⟩) fun _ _ x => x
  exact (q Fa T F' H' σ' (lk.base B) S').mono hP (fun v H z => rt_back B z) (fun σ H z => at_back B z) hP
/-- J yields the data ds, while what is frozen at Fa stays -/
def ItD (K : PySem.W.Frag) (J : It) (Fa : Hp) (ds : List D) : Prop := ∀ (F H : Hp), Ex Fa F → Ex F H → J.stop ds.length H ∧ ∀ (i : Nat) (d : D), ds[i]? = some d → J.go i H ∧ ∀ x H', J.yld i H x H' →
  (H' = H ∧ Rep K F d x) ∨ ∃ p o, H p = none ∧ H' = upd H p o ∧ x = .ref p ∧ Rep K (upd F p o) d (.ref p)
theorem ItD.mono {K : PySem.W.Frag} {J : It} {F F' : Hp} {ds : List D} (e : Ex F F') (h : ItD K J F ds) : ItD K J F' ds := fun F2 H e1 e2 => h F2 H (e.trans e1) e2
/-- a yielded item, over a state -/
theorem ItD.item {K : PySem.W.Frag} {J : It} {Fa F0 T F : Hp} {G : GD} {H H' : Hp} {r : Env2} {σ : L2.St} {ds : List D} {i : Nat} {d : D} {x : V} (h : ItD K J Fa ds) (ea : Ex Fa F) (S : Sta K F0 T F G H r σ) (hi : ds[i]? = some d) (y : J.yld i H x H') :
    ∃ F', Ex F F' ∧ Sta K F0 T F' G H' r σ ∧ Rep K F' d x := by
  obtain ⟨_, h2⟩ := h F H ea S.bas.fh
  rcases (h2 i d hi).2 x H' y with ⟨rfl, rp⟩ | ⟨p, o, hp, rfl, rfl, rp⟩
  · exact ⟨F, Ex.refl _, S, rp⟩
  · exact ⟨upd F p o, Ex.new (S.bas.freshF hp).1, S.newF hp, rp⟩
def RunI (X : Cx) (tg e : Expr) : TI := fun σ H R => ∀ (pins : List (Addr × Obj)) (s : Shared), Inv X pins σ H s → wpAny (model X.prog X.w) X.A (eval e X.env) (fun v s1 => wpAny (model X.prog X.w) X.A (pyIter v) (PIE X pins σ tg R) X.xe s1) X.xe s
theorem piR {X : Cx} {tg e : Expr} : PI X tg e (RunI X tg e) := ⟨fun pins s _ _ _ I h => h pins s I⟩
theorem RunI.of {X : Cx} {tg e : Expr} {wi : TI} {σ : L2.St} {H : Hp} {R : It → Hp → Prop} (h : PI X tg e wi) (q : wi σ H R) : RunI X tg e σ H R := fun pins s I => h.run pins s σ H R I q
theorem RunI.mono {X : Cx} {tg e : Expr} {σ : L2.St} {H : Hp} {R R' : It → Hp → Prop} (h : RunI X tg e σ H R) (k : ∀ J H', R J H' → R' J H') : RunI X tg e σ H R' := fun pins s I =>
  wpAny_mono (h pins s I) (fun _ _ q => wpAny_mono q (fun _ _ ⟨it, fp, tn, J, H', a, b, c, d, e, f⟩ => ⟨it, fp, tn, J, H', a, b, c, d, e, k _ _ f⟩) fun _ _ x => x) fun _ _ x => x
/-- the iterable e yields data -/
def WI (X : Cy) (tg e : Expr) (r : Env2) (G : GD) (Q : List D → Env2 → GD → Prop) : Prop :=
  ∀ (F0 T F H : Hp) (σ : L2.St), Lk X F0 T → Sta X.K F0 T F G H r σ → RunI X tg e σ H fun J H' => ∃ ds r' G' F', Ex F F' ∧ Sta X.K F0 T F' G' H' r' σ ∧ ItD X.K J F' ds ∧ Q ds r' G'
theorem WI.mono {Q Q' : List D → Env2 → GD → Prop} (h : WI X tg e r G Q) (k : ∀ x r' G', Q x r' G' → Q' x r' G') : WI X tg e r G Q' := fun F0 T F H σ lk S =>
  (h F0 T F H σ lk S).mono fun _ _ ⟨x, r', G', F', a, b, c, q⟩ => ⟨x, r', G', F', a, b, c, k _ _ _ q⟩
theorem wi_lst {Q : List D → Env2 → GD → Prop} (h : WE X e r G fun x r1 G1 => ∃ ds r2, fz r1 x = some (.lst ds, r2) ∧ (ds.length ≤ LIM → Q ds r2 G1)) : WI X tg e r G Q := fun F0 T F H σ lk S =>
  RunI.of (pi_list peR) ((h F0 T F H σ lk S).bl.mono fun v H1 ⟨bl, x, r1, G1, F1, e1, S1, k1, ds, r2, q1, q2⟩ => by
    obtain ⟨Fa, e2, Sa, rp⟩ := S1.fz k1 q1
    obtain ⟨a, vs, rfl, z1, z2⟩ := rp
    have hlim : ds.length ≤ LIM := by rw [← z2.length]; exact bl.1 a vs (.inl (Sa.bas.fh.rd z1))
    refine ⟨a, rfl, ⟨vs, .inl (Sa.bas.fh.rd z1)⟩, ds, r2, G1, Fa, e1.trans e2, Sa, fun F H ea eh => ⟨⟨vs, .inl (eh.rd (ea.rd z1)), by rw [z2.length]; exact Nat.le_refl _⟩, fun i d hi => ?_⟩, q2 hlim⟩
    obtain ⟨v, h1, h2⟩ := z2.get hi
    exact ⟨⟨vs, v, .inl (eh.rd (ea.rd z1)), h1⟩, fun x H' ⟨y1, y2⟩ => .inl ⟨y1, by
      have := y2 vs (.inl (eh.rd (ea.rd z1)))
      rw [h1] at this; cases this
      exact Rep.mono ea _ _ h2⟩⟩)
theorem wi_tup {Q : List D → Env2 → GD → Prop} (h : WE X e r G fun x r1 G1 => ∃ ds r2, fz r1 x = some (.tup ds, r2) ∧ (ds.length ≤ LIM → Q ds r2 G1)) : WI X tg e r G Q := fun F0 T F H σ lk S =>
  RunI.of (pi_tup peR) ((h F0 T F H σ lk S).bl.mono fun v H1 ⟨bl, x, r1, G1, F1, e1, S1, k1, ds, r2, q1, q2⟩ => by
    obtain ⟨Fa, e2, Sa, rp⟩ := S1.fz k1 q1
    obtain ⟨a, vs, rfl, z1, z2⟩ := rp
    have hlim : ds.length ≤ LIM := by rw [← z2.length]; exact bl.2.1 a vs (Sa.bas.fh.sqT z1)
    refine ⟨a, rfl, ⟨vs, Sa.bas.fh.sqT z1⟩, ds, r2, G1, Fa, e1.trans e2, Sa, fun F H ea eh => ⟨⟨vs, eh.sqT (ea.sqT z1), by rw [z2.length]; exact Nat.le_refl _⟩, fun i d hi => ?_⟩, q2 hlim⟩
    obtain ⟨v, h1, h2⟩ := z2.get hi
    exact ⟨⟨vs, v, eh.sqT (ea.sqT z1), h1⟩, fun x H' ⟨y1, y2⟩ => .inl ⟨y1, by
      have := y2 vs (eh.sqT (ea.sqT z1))
      rw [h1] at this; cases this
      exact Rep.mono ea _ _ h2⟩⟩)
def rgI (a b : Int) : List Int := (List.range (b - a).toNat).map fun i => a + (i : Nat)
theorem rgI_length (a b : Int) : (rgI a b).length = (b - a).toNat := by unfold rgI; rw [List.length_map, List.length_range]
theorem rgI_get {a b : Int} {i : Nat} {x : Int} (h : (rgI a b)[i]? = some x) : i < (b - a).toNat ∧ x = a + (i : Nat) := by
  unfold rgI at h
  rw [List.getElem?_map] at h
  cases q : (List.range (b - a).toNat)[i]? with
  | none => rw [q] at h; cases h
  | some j =>
    rw [q] at h
    obtain ⟨z1, z2⟩ := List.getElem?_eq_some_iff.mp q
    rw [List.length_range] at z1
    rw [List.getElem_range] at z2
    subst z2
    exact ⟨z1, by simpa using h.symm⟩
theorem itd_range {K : PySem.W.Frag} {Fa : Hp} {lo hi : Int} {n : Nat} (hn : n = (hi - lo).toNat) : ItD K (Itr lo n) Fa ((rgI lo hi).map D.int) := fun F H ea eh =>
  ⟨by rw [List.length_map, rgI_length, ← hn]; exact Nat.le_refl _, fun i d hd => by
    rw [List.getElem?_map] at hd
    cases q : (rgI lo hi)[i]? with
    | none => rw [q] at hd; cases hd
    | some x =>
      rw [q] at hd
      obtain ⟨z1, rfl⟩ := rgI_get q
      cases hd
      exact ⟨by rw [hn]; exact z1, fun y H' ⟨y1, y2⟩ => .inl ⟨y1, y2⟩⟩⟩
abbrev RG (n : Int) : Prop := -(2 ^ 62) ≤ n ∧ n < 2 ^ 62
theorem wi_rng1 {Q : List D → Env2 → GD → Prop} (hg : Gl X "range") (hm : X.mg "range" = none)
    (h : WE X a r G fun x r1 G1 => ∃ n, vw r1 x = some (.int n) ∧ RG n ∧ Q ((rgI 0 n).map D.int) r1 G1) (hst : starEach [a] X.env = [(false, eval a X.env)] := by rfl) : WI X tg (.Call (.Name "range" p0) [a] [] pos) r G Q := fun F0 T F H σ lk S =>
  RunI.of (pi_range1 hg hm (pa_cons peR pa_nil hst) hst) ((h F0 T F H σ lk S).mono fun v H1 ⟨x, r1, G1, F1, e1, S1, k1, n, q1, hn, q2⟩ =>
    ⟨n, by rw [(S1.view k1 q1).int], hn.1, hn.2, _, r1, G1, F1, e1, S1, itd_range (by rw [Int.sub_zero]), q2⟩)
theorem wi_rng2 {Q : List D → Env2 → GD → Prop} (hg : Gl X "range") (hm : X.mg "range" = none)
    (h : WE X a r G fun x r1 G1 => WE X b r1 G1 fun y r2 G2 => ∃ lo n, vw r2 x = some (.int lo) ∧ vw r2 y = some (.int n) ∧ RG lo ∧ RG n ∧ Q ((rgI lo n).map D.int) r2 G2)
    (hst : starEach [a, b] X.env = [(false, eval a X.env), (false, eval b X.env)] := by rfl) (hst2 : starEach [b] X.env = [(false, eval b X.env)] := by rfl) : WI X tg (.Call (.Name "range" p0) [a, b] [] pos) r G Q := fun F0 T F H σ lk S =>
  RunI.of (pi_range2 hg hm (pa_cons peR (pa_cons peR pa_nil (by rw [hst2]; rfl)) (by rw [hst, hst2])) hst hst2) ((h F0 T F H σ lk S).mono fun v H1 ⟨x, r1, G1, F1, e1, S1, k1, h1⟩ => by
    obtain ⟨F1', e1', S1', hv⟩ := hold S1 k1
    refine (h1 F0 T F1' H1 σ lk S1').mono fun v2 H2 ⟨y, r2, G2, F2, e2, S2, k2, lo, n, q1, q2, hl, hn, q3⟩ => ?_
    exact ⟨lo, n, by rw [(hv F2 G2 H2 r2 _ e2 S2 (.inl q1)).int, (S2.view k2 q2).int], ⟨hl.1, hl.2, hn.1, hn.2⟩, _, r2, G2, F2, (e1.trans e1').trans e2, S2, itd_range rfl, q3⟩)
theorem ws_for {is : List Nat} (hp : PassesOwn (model X.prog X.w) X.A X.env X.xe) (hc : X.calm = true)
    (h : WI X tg e r G fun ds r2 G1 => ∃ I : Nat → Env2 → GD → Prop, I 0 r2 G1 ∧ (∀ (k : Nat) (d : D) (r3 : Env2) (G3 : GD), ds[k]? = some d → I k r3 G3 → WG X tg d r3 G3 is fun r4 G4 => WB X body r4 G4 { D0 with nx := I (k + 1), ct := I (k + 1), bk := D0.nx }) ∧
      ∀ r3 G3, I ds.length r3 G3 → D0.nx r3 G3) (hs : ∀ x, foldedSetIterable e X.env x = pure x := by intro _; rfl) : WS X (.For tg e body [] pos) r G D0 := fun F0 T F H σ lk S =>
  RunS.of (ps_for hp hc piR pgR pbR hs) ((h F0 T F H σ lk S).mono fun J H1 ⟨ds, r2, G1, Fa, e1, Sa, hJ, I, i0, it, ie⟩ => by
    refine ⟨fun i m σ' H' => m = ds.length - i ∧ i ≤ ds.length ∧ PostN X.K Fa T (I i) σ' H', ⟨ds.length, by simp, Nat.zero_le _, r2, G1, Fa, Sa.base, i0⟩, ?_⟩
    rintro i m σ' H' ⟨rfl, hi, r', G', F', S', q'⟩
    obtain ⟨j1, j2⟩ := hJ F' H' S'.bas.ff S'.bas.fh
    by_cases hlt : i < ds.length
    · obtain ⟨j3, _⟩ := j2 i ds[i] (List.getElem?_eq_getElem hlt)
      refine .inr ⟨j3, fun σ' H' => PostN X.K Fa T (I (i + 1)) σ' H', fun σ2 H2 p2 => ⟨ds.length - (i + 1), by omega, rfl, hlt, p2⟩, fun x H2 y => ?_⟩
      obtain ⟨F2, ef, S2, rp⟩ := hJ.item S'.bas.ff S' (List.getElem?_eq_getElem hlt) y
      exact turn1 lk Sa.bas S2 rp (it i ds[i] r' G' (List.getElem?_eq_getElem hlt) q') fun _ _ z => z
    · have e : i = ds.length := by omega
      subst e
      exact .inl ⟨j1, at_back Sa.bas ⟨r', G', F', S', ie r' G' q'⟩⟩)
abbrev FSp := List D → GD → (Res → GD → Prop) → (Exn → GD → Prop) → Prop
/-- what others hold at a call -/
def Tof (G : GD) (H : Hp) : Hp := fun a => match G a with
  | none => H a
  | some _ => none
theorem Tof_none {G : GD} {H : Hp} {a : Addr} (h : G a = none) : Tof G H a = H a := by unfold Tof; rw [h]
theorem Tof_some {G : GD} {H : Hp} {a : Addr} {o : D} (h : G a = some o) : Tof G H a = none := by unfold Tof; rw [h]
/-- a def's promise over data -/
def spD (K : PySem.W.Frag) (f : FSp) : Sp := fun vs H Q E => ∃ (F : Hp) (G : GD) (ds : List D) (post : Res → GD → Prop) (px : Exn → GD → Prop), Ex F H ∧ (∀ a d, G a = some d → Own K F H a d) ∧ (∀ a o, G a = some o → F a = none) ∧ RepL K F ds vs ∧ f ds G post px ∧
  (∀ x G' v H' F', post x G' → Bas K F (Tof G H) F' G' H' → RtOk K (Tof G H) F' G' H' x v → Q v H') ∧ ∀ x cls d G' H' F', px x G' → Bas K F (Tof G H) F' G' H' → ExOk K F' cls d x → E cls d H'
/-- behind a call the caller's state stands -/
theorem Sta.after {K : PySem.W.Frag} {F0 T F : Hp} {G : GD} {H F' : Hp} {G' : GD} {H' : Hp} {r : Env2} {σ : L2.St} (S : Sta K F0 T F G H r σ) (B : Bas K F (Tof G H) F' G' H') : Sta K F0 T F' G' H' r σ := by
  have tt : ∀ a o, T a = some o → Tof G H a = some o := fun a o h => by
    have hg : G a = none := by
      cases e : G a with
      | none => rfl
      | some u => rw [S.bas.gt a u e] at h; cases h
    rw [Tof_none hg]
    exact S.bas.tk a o h
  refine S.grow ⟨S.bas.ff.trans B.ff, fun a o h => ?_, B.fh, B.gh, B.fg, fun a o h => ?_, fun a o h => B.tk a o (tt a o h)⟩ B.ff fun p h1 h2 h3 ⟨u, hu⟩ => ?_
  · rcases B.ft a o h with z | z
    · exact S.bas.ft a o z
    · cases e : T a with
      | none => exact .inr rfl
      | some u => rw [tt a u e] at z; cases z
  · cases e : T a with
    | none => rfl
    | some u =>
      have z := B.gt a o h
      rw [tt a u e] at z; cases z
  · have hT : Tof G H p = some u := by rw [Tof_none h2]; exact hu
    refine ⟨fun o ho => by rw [hu] at ho; cases ho; exact B.tk p u hT, ?_, ?_, h3⟩
    · cases e : F' p with
      | none => rfl
      | some w =>
        rcases B.ft p w e with z | z
        · rw [h1] at z; cases z
        · rw [hT] at z; cases z
    · cases e : G' p with
      | none => rfl
      | some w => have z := B.gt p w e; rw [hT] at z; cases z
theorem ResOk.after {K : PySem.W.Frag} {F0 T F : Hp} {G : GD} {H F' : Hp} {G' : GD} {H' : Hp} {r : Env2} {σ : L2.St} {x : Res} {v : V} (S : Sta K F0 T F G H r σ) (B : Bas K F (Tof G H) F' G' H') (h : RtOk K (Tof G H) F' G' H' x v) : ResOk K T F' G' H' r σ x v := by
  cases x with
  | sh d => exact h
  | pk i => exact h.elim
  | fr d =>
    obtain ⟨p, rfl, h2, h3, h4, h5⟩ := h
    refine ⟨p, rfl, h2, h3, h4, ?_, fun i e he z => ?_⟩
    · cases e : T p with
      | none => rfl
      | some u =>
        have hg : G p = none := by
          cases eg : G p with
          | none => rfl
          | some w => rw [S.bas.gt p w eg] at e; cases e
        rw [Tof_none hg, S.bas.tk p u e] at h5; cases h5
    · obtain ⟨q, z1, z2, z3, z4, z5⟩ := S.ownS he
      rw [z] at z1; cases z1
      obtain ⟨o, ho⟩ := z2.there
      rw [Tof_none z4, ho] at h5; cases h5
/-- a promise met from a state -/
theorem spD_of {F0 T F F1 H : Hp} {σ : L2.St} {sp : FSp} {ds : List D} {vs : List V} {Q : Res → Env2 → GD → Prop} (lk : Lk X F0 T) (S : Sta X.K F0 T F1 G H r σ) (e1 : Ex F F1) (ha : RepL X.K F1 ds vs) (h : sp ds G (fun z G2 => Q z r G2) (fun x G2 => X.QX x r G2)) : spD X.K sp vs H (PostE X.K F0 T F σ Q) (L2.WE X.WX σ) :=
  ⟨F1, G, ds, _, _, S.bas.fh, S.bas.gh, S.bas.fg, ha, h, fun x G' v H' F' hp B rt => ⟨x, r, G', F', e1.trans B.ff, S.after B, ResOk.after S B rt, hp⟩, fun x cls d G' H' F' hp B ex => ⟨r, G', F', x, lk.sta (S.after B), ex, hp⟩⟩
theorem we_call {f : Addr} {fd : FuncData} {ps : List Str} {sp : FSp} {k : Nat} {x : Str} {Q : Res → Env2 → GD → Prop} (tk : X.Tk) (Fo : FnOk X.prog X.w X.K X.mg X.base (CX X.prog X.w) k f fd ps (spD X.K sp)) (hr : Room k X.A) (hg : Gl X x) (hm : X.mg x = some (.ref f)) (hk : PySem.W.keepIn X.K (.ref f) = true) (hb : Binds X.K fd ps [])
    (h : WA X (e :: es) r G fun ds r1 G1 => sp ds G1 (fun z G2 => Q z r1 G2) (fun x G2 => X.QX x r1 G2))
    (hdb : (x == ("__debug__" : Str)) = false := by decide) (he : starEach (e :: es) X.env = (false, eval e X.env) :: starEach es X.env := by rfl) (hpl : (backTo pos (starEach es X.env)).any (·.1) = false := by rfl) : WE X (.Call (.Name x p0) (e :: es) [] pos) r G Q := fun F0 T F H σ lk S =>
  Run.of (pe_callS Fo hr hg hm hk hb (fun σ => passAt tk σ) paR hdb he hpl) ((h F0 T F H σ lk S).mono fun vs H1 ⟨ds, r1, G1, F1, e1, S1, k1, q⟩ => spD_of lk S1 e1 k1 q)
end
def startD (N : List Str) (ds : List D) : Env2 := ds.map .sh ++ List.replicate (N.length - ds.length) .no
theorem sta_start {K : PySem.W.Frag} {F : Hp} {G : GD} {H : Hp} {N : List Str} {ds : List D} {vs : List V} (hl : ds.length ≤ N.length) (e1 : Ex F H) (e2 : ∀ a d, G a = some d → Own K F H a d) (e3 : ∀ a o, G a = some o → F a = none) (h : RepL K F ds vs) : Sta K F (Tof G H) F G H (startD N ds) (L2.start N vs) := by
  have hv := h.length
  refine ⟨⟨Ex.refl _, fun _ _ z => .inl z, e1, e2, e3, fun a o z => Tof_some z, fun a o z => ?_⟩, ?_, fun i s z => ?_, fun i j d e _ z => ?_⟩
  · unfold Tof at z
    split at z
    · exact z
    · cases z
  · unfold startD L2.start
    simp only [List.length_append, List.length_map, List.length_replicate, hv]
  · unfold startD at z
    by_cases hi : i < ds.length
    · rw [List.getElem?_append_left (by simpa using hi), List.getElem?_map, List.getElem?_eq_getElem hi] at z
      cases z
      obtain ⟨v, q1, q2⟩ := h.get (List.getElem?_eq_getElem hi)
      refine ⟨v, ?_, q2⟩
      unfold L2.start
      rw [List.getElem?_append_left (by rw [List.length_map, hv]; exact hi), List.getElem?_map, q1]
      rfl
    · rw [List.getElem?_append_right (by simpa using hi), List.getElem?_replicate] at z
      split at z
      · cases z; trivial
      · cases z
  · exfalso
    unfold startD at z
    by_cases hi : i < ds.length
    · rw [List.getElem?_append_left (by simpa using hi), List.getElem?_map, List.getElem?_eq_getElem hi] at z
      cases z
    · rw [List.getElem?_append_right (by simpa using hi), List.getElem?_replicate] at z
      split at z
      · cases z
      · cases z
section
variable {P : Program} {w : World} {K : PySem.W.Frag} {mg : Str → Option Value} {base : Heap}
/-- the context of a def's body -/
def cyOf (P : Program) (w : World) (K : PySem.W.Frag) (mg : Str → Option Value) (base : Heap) (N : List Str) (qual : Str) (scope : Scope) (f : Addr) (cd : Value) (A : Around) (outer : List Env) (s : Shared) (H : Hp) (E : XK) (F T : Hp) (px : Exn → GD → Prop) : Cy :=
  { L2.cxOf (L2.CX P w) P w K mg base N qual scope f cd A outer s H E with F0 := F, T := T, QX := fun x _ G => px x G }
theorem def_ok {x qual : Str} {st : Stmt} {f : Addr} {fd : FuncData} {N ps : List Str} {k : Nat} {sp : FSp} (Fo : Fun K x qual st f fd) (S : FnScope N ps (defScope st)) (len : ∀ ds G post px, sp ds G post px → ds.length = ps.length)
    (hbody : ∀ (cdv : Value) (A : Around) (outer : List Env) (s : Shared) (H : Hp) (E : XK) (F T : Hp), Room k (A.deeper (envOfC qual (defScope st) s.heap.objs.size f cdv)) → ∀ (ds : List D) (G : GD) (post : Res → GD → Prop) (px : Exn → GD → Prop), sp ds G post px →
      (cyOf P w K mg base N qual (defScope st) f cdv A outer s H E F T px).Tk → PassesOwn (model P w) (cyOf P w K mg base N qual (defScope st) f cdv A outer s H E F T px).A (cyOf P w K mg base N qual (defScope st) f cdv A outer s H E F T px).env (cyOf P w K mg base N qual (defScope st) f cdv A outer s H E F T px).xe →
      WB (cyOf P w K mg base N qual (defScope st) f cdv A outer s H E F T px) (defBody st) (startD N ds) G { nx := fun _ G' => post (.sh .non) G', rt := post }) : FnOk P w K mg base (L2.CX P w) (k + 1) f fd ps (spD K sp) := by
  refine Fo.okX S (fun vs H Q E h => ?_) (fun cdv A outer s H vs Q E hr h => ?_)
  · obtain ⟨F, G, ds, post, px, _, _, _, rp, hf, _⟩ := h
    rw [rp.length, len ds G post px hf]
  · obtain ⟨F, G, ds, post, px, e1, e2, e3, rp, hf, hq, hx⟩ := h
    have hl : ds.length ≤ N.length := by
      rw [len ds G post px hf]
      have := congrArg List.length S.pre
      rw [List.length_take] at this
      omega
    refine ⟨RunB _ (defBody st), pbR, ?_⟩
    have tk : (cyOf P w K mg base N qual (defScope st) f cdv A outer s H E F (Tof G H) px).Tk := (takes_of (E := E) rfl rfl rfl rfl).imp fun cls d σ H' ⟨r, G', F', x, S', ex, q⟩ => hx x cls d G' H' F' q S'.bas ex
    refine (hbody cdv A outer s H E F (Tof G H) hr ds G post px hf tk (passes_of rfl) F (Tof G H) F H (L2.start N vs) ⟨Ex.refl _, Ex.refl _, fun _ _ z => .inl z⟩ (sta_start hl e1 e2 e3 rp)).mono (fun σ' H' ⟨r', G', F', S', q⟩ => ?_) (fun v H' ⟨x, G', F', B, rt, q⟩ => hq x G' v H' F' q B rt) (fun _ _ ⟨_, _, _, _, q⟩ => q) (fun _ _ ⟨_, _, _, _, q⟩ => q)
    exact hq (.sh .non) G' .non H' F' q S'.bas rfl
end
theorem Sta.mut {K : PySem.W.Frag} {F0 T F : Hp} {G : GD} {H : Hp} {r : Env2} {σ : L2.St} (S : Sta K F0 T F G H r σ) {i : Nat} {d0 : D} (h : r[i]? = some (.own d0)) :
    ∃ p, σ[i]? = some (some (.ref p)) ∧ Own K F H p d0 ∧ F p = none ∧ ∀ (o' : HO) (d' : D), Own K F (upd H p o') p d' → Sta K F0 T F G (upd H p o') (r.set i (.own d')) σ := by
  obtain ⟨p, h1, h2, h3, h4, h5⟩ := S.ownS h
  have hi : i < r.length := (List.getElem?_eq_some_iff.mp h).1
  refine ⟨p, h1, h2, h3, fun o' d' ho => ⟨S.bas.put h3 h4 h5, by rw [List.length_set]; exact S.len, fun j s e => ?_, fun j k d e hjk ej ek => ?_⟩⟩
  · by_cases hj : i = j
    · subst hj
      rw [List.getElem?_set_self hi] at e
      cases e
      exact ⟨p, h1, ho, h3, h4, h5⟩
    · rw [List.getElem?_set_ne hj] at e
      have q := S.sl j s e
      cases s with
      | no => trivial
      | sh d => exact q
      | own d =>
        obtain ⟨p', q1, q2, q3, q4, q5⟩ := q
        have hpp : p' ≠ p := fun z => by
          subst z
          exact S.ap i j d0 d hj h e (h1.trans q1.symm)
        exact ⟨p', q1, q2.mono (Ex.refl _) fun u hu => by rw [upd_ne hpp]; exact hu, q3, q4, q5⟩
  · have own : ∀ (m : Nat) (x : D), (r.set i (.own d'))[m]? = some (.own x) → ∃ y, r[m]? = some (.own y) := fun m x hm => by
      by_cases hm2 : i = m
      · subst hm2; exact ⟨d0, h⟩
      · rw [List.getElem?_set_ne hm2] at hm; exact ⟨x, hm⟩
    obtain ⟨y1, hy1⟩ := own j d ej
    obtain ⟨y2, hy2⟩ := own k e ek
    exact S.ap j k y1 y2 hjk hy1 hy2
section
variable {X : Cy} {e e2 a b c o tg : Expr} {es : List Expr} {st : Stmt} {sts rest body orelse : List Stmt} {r : Env2} {G : GD} {pos apos cpos p0 : Pos} {D0 : EndsD}
/-- what a method does to an own list: the answer, the new content -/
def MutW (X : Cy) (id : String) (ds args : List D) (Kt : D → List D → Prop) : Prop :=
  ∀ (F H : Hp) (p : Addr) (vs us : List V), H p = some (.lst vs) → F p = none → Ex F H → RepL X.K F ds vs → RepL X.K F args us →
    ∃ rr, MtR X id rr ∧ rr (.ref p) us H (fun v' H' => ∃ vs' res ds', H' = upd H p (.lst vs') ∧ Rep X.K F res v' ∧ RepL X.K F ds' vs' ∧ Kt res ds')
def mtU (X : Cy) (id : String) : V → List V → Hp → VK → Prop := fun x xs H Q => ∃ rr, MtR X id rr ∧ rr x xs H Q
theorem mtU_ok {id : String} : MtR X id (mtU X id) := fun pins s σ H x xs v us Q I rx rv ⟨rr, h1, h2⟩ => h1 pins s σ H x xs v us Q I rx rv h2
theorem MtR.post {id : String} {rr : V → List V → Hp → VK → Prop} (h : MtR X id rr) (P : VK) : MtR X id (fun x xs H Q' => rr x xs H P ∧ ∀ v H', P v H' → Q' v H') := fun pins s σ H x xs v us Q' I rx rv ⟨q, m⟩ =>
  wpAny_mono (h pins s σ H x xs v us P I rx rv q) (fun _ _ ⟨v, H', I', rl, q⟩ => ⟨v, H', I', rl, m v H' q⟩) fun _ _ x => x
theorem mut_end {id : String} {ds args : List D} {i : Nat} {F0 T F F1 H : Hp} {σ : L2.St} {v : V} {us : List V} {Q : Res → Env2 → GD → Prop} (e1 : Ex F F1) (S : Sta X.K F0 T F1 G H r σ) (hi : r[i]? = some (.own (.lst ds))) (hv : σ[i]? = some (some v)) (ha : RepL X.K F1 args us)
    (h : MutW X id ds args fun res ds' => Q (.sh res) (r.set i (.own (.lst ds'))) G) : mtU X id v us H (PostE X.K F0 T F σ Q) := by
  obtain ⟨p, h1, ⟨vs, h2, h3⟩, h4, h5⟩ := S.mut hi
  rw [hv] at h1; cases h1
  obtain ⟨rr, k1, k2⟩ := h F1 H p vs us h2 h4 S.bas.fh h3 ha
  refine ⟨_, MtR.post k1 _, k2, fun v' H' ⟨vs', res, ds', z1, z2, z3, z4⟩ => ?_⟩
  subst z1
  exact ⟨.sh res, _, G, F1, e1, h5 _ (.lst ds') ⟨vs', upd_same, z3⟩, z2, z4⟩
theorem we_m1 {name : Str} {id : String} {Q : Res → Env2 → GD → Prop} (pa : PlainAttrs "list") (slot : Slot "list" name id) (hty : typeOf (.builtin id) = pure (.type "method_descriptor"))
    (h : WE X o r G fun x r1 G1 => ∃ i ds0, x = .pk i ∧ r1[i]? = some (.own (.lst ds0)) ∧ WE X e r1 G1 fun y r2 G2 => ∃ d r3 ds, fz r2 y = some (d, r3) ∧ r3[i]? = some (.own (.lst ds)) ∧ MutW X id ds [d] fun res ds' => Q (.sh res) (r3.set i (.own (.lst ds'))) G2)
    (hbase : attributeBase o name X.env (eval o X.env) = eval o X.env := by rfl)
    (hfew : ((backTo cpos (starEach [e] X.env)).all (fun x => !x.1) && (backToKw cpos (keywordEach [] X.env)).all (fun x => x.1.isSome) && decide (([e] : List Expr).length + ([] : List Keyword).length + (if ([] : List Keyword).isEmpty then 0 else 1) < 30)) = true := by rfl)
    (hline : (apos.endLine == cpos.line) = true := by rfl) (hs : starEach [e] X.env = (false, eval e X.env) :: starEach [] X.env := by rfl) (hplain : (backTo cpos (starEach [] X.env)).any (·.1) = false := by rfl) :
    WE X (.Call (.Attribute o name apos) [e] [] cpos) r G Q := fun F0 T F H σ lk S =>
  Run.of (pe_bm pa slot hty mtU_ok peR (pa_cons peR pa_nil hs) hbase hfew hline hs hplain) ((h F0 T F H σ lk S).mono fun v H1 ⟨x, r1, G1, F1, e1, S1, k1, i, ds0, hx, hi0, h1⟩ => by
    subst hx
    obtain ⟨hv, _⟩ := k1
    obtain ⟨p, h1', ⟨vs, h2, h3⟩, _⟩ := S1.mut hi0
    rw [hv] at h1'; cases h1'
    refine ⟨.inl ⟨rfl, vs, .inl (.inl h2)⟩, (h1 F0 T F1 H1 σ lk S1).mono fun w H2 ⟨y, r2, G2, F2, e2, S2, k2, d, r3, ds, q1, q2, q3⟩ => ?_⟩
    obtain ⟨F3, e3, S3, rp⟩ := S2.fz k2 q1
    exact mut_end ((e1.trans e2).trans e3) S3 q2 hv (.one rp) q3)
def rExtendR : V → List V → Hp → VK → Prop := fun x vs H Q => ∃ l b xs zs, x = .ref l ∧ vs = [.ref b] ∧ H l = some (.lst xs) ∧ Rd H b (.lst zs) ∧ xs.length + zs.length ≤ sizeLine ∧ Q .non (upd H l (.lst (xs ++ zs)))
theorem mt_extendR {X : Cx} : MtR X "list.extend" rExtendR := by
  intro pins s σ H x vs v us Q I rx rv h
  obtain ⟨l, b, xs, zs, rfl, rfl, hH, hB, hz, q⟩ := h
  cases rx
  obtain ⟨u, rfl, ru⟩ := rv.one
  cases ru
  obtain ⟨z, its, n, r, hl, e⟩ := I.lstM hH
  obtain ⟨z2, its2, n2, r2, e2⟩ := lst_of I hB
  have hl2 := r2.length
  have hsz : its.toArray.size + its2.toArray.size ≤ sizeLine := by rw [List.size_toArray, List.size_toArray]; omega
  have hlong : ¬ (!its.toArray.isEmpty && Builtin.List.listTooLong (its.toArray.size + its2.toArray.size)) = true := by
    rw [notLongL hsz, Bool.and_false]
    exact Bool.false_ne_true
  refine call_meets F.slot_list_extend ⟨_, e, rfl⟩ F.entry_list_extend (F.args_list_extend_2 _ _)
    (AutoSeq1.list_extend_list_list_0 l its.toArray n b its2.toArray n2 hlong (by rw [List.size_toArray]; omega) (by omega)) ⟨e, e2, ?_⟩
  refine ⟨.non, _, I.lset (its' := its ++ its2) hH e (by simp) (r.append r2) ?_, rfl, q⟩
  rw [List.length_append]
  omega
theorem mw_extend {ds es : List D} {Kt : D → List D → Prop} (hl : ds.length + es.length ≤ LIM) (k : Kt .non (ds ++ es)) : MutW X "list.extend" ds [.lst es] Kt := fun F H p vs us hp hf ex h1 h2 => by
  obtain ⟨v, u', rfl, ⟨q, ws, rfl, h5, h6⟩, h4⟩ := h2
  cases (show u' = [] from h4)
  exact ⟨_, mt_extendR, p, q, vs, ws, rfl, rfl, hp, ex.rd h5, by rw [h1.length, h6.length]; exact lim_ok hl, vs ++ ws, .non, ds ++ es, rfl, rfl, h1.append h6, k⟩
theorem we_extend {Q : Res → Env2 → GD → Prop}
    (h : WE X o r G fun x r1 G1 => ∃ i ds0, x = .pk i ∧ r1[i]? = some (.own (.lst ds0)) ∧ WE X e r1 G1 fun y r2 G2 => ∃ zs r3 ds, fz r2 y = some (.lst zs, r3) ∧ r3[i]? = some (.own (.lst ds)) ∧ ds.length + zs.length ≤ LIM ∧ Q (.sh .non) (r3.set i (.own (.lst (ds ++ zs)))) G2)
    (hbase : attributeBase o "extend" X.env (eval o X.env) = eval o X.env := by rfl)
    (hfew : ((backTo cpos (starEach [e] X.env)).all (fun x => !x.1) && (backToKw cpos (keywordEach [] X.env)).all (fun x => x.1.isSome) && decide (([e] : List Expr).length + ([] : List Keyword).length + (if ([] : List Keyword).isEmpty then 0 else 1) < 30)) = true := by rfl)
    (hline : (apos.endLine == cpos.line) = true := by rfl) (hs : starEach [e] X.env = (false, eval e X.env) :: starEach [] X.env := by rfl) (hplain : (backTo cpos (starEach [] X.env)).any (·.1) = false := by rfl) :
    WE X (.Call (.Attribute o "extend" apos) [e] [] cpos) r G Q :=
  we_m1 PySem.F.plainAttrs_list PySem.F.slot_list_extend PySem.F.type_list_extend (h.mono fun x r1 G1 ⟨i, ds0, h1, h2, h3⟩ => ⟨i, ds0, h1, h2, h3.mono fun y r2 G2 ⟨zs, r3, ds, k1, k2, k3, k4⟩ => ⟨.lst zs, r3, ds, k1, k2, mw_extend k3 k4⟩⟩) hbase hfew hline hs hplain
/-- a read-only method of a list with one argument -/
def MtW (X : Cy) (id : String) (dr da : D) (Q : Res → Prop) : Prop :=
  ∀ (F0 T F : Hp) (G : GD) (H : Hp) (r : Env2) (σ : L2.St) (v w : V), Sta X.K F0 T F G H r σ → Vw X.K F H dr v → Vw X.K F H da w →
    ∃ rr, MtR X id rr ∧ rr v [w] H (fun v' H' => ∃ x F', Ex F F' ∧ Sta X.K F0 T F' G H' r σ ∧ ResOk X.K T F' G H' r σ x v' ∧ Q x)
theorem we_r1 {name : Str} {id : String} {Q : Res → Env2 → GD → Prop} (pa : PlainAttrs "list") (slot : Slot "list" name id) (hty : typeOf (.builtin id) = pure (.type "method_descriptor"))
    (h : WE X o r G fun x r1 G1 => ∃ ds0, VwR r1 G1 x (.lst ds0) ∧ WE X e r1 G1 fun y r2 G2 => ∃ dr da, VwR r2 G2 x dr ∧ VwR r2 G2 y da ∧ MtW X id dr da fun z => Q z r2 G2)
    (hbase : attributeBase o name X.env (eval o X.env) = eval o X.env := by rfl)
    (hfew : ((backTo cpos (starEach [e] X.env)).all (fun x => !x.1) && (backToKw cpos (keywordEach [] X.env)).all (fun x => x.1.isSome) && decide (([e] : List Expr).length + ([] : List Keyword).length + (if ([] : List Keyword).isEmpty then 0 else 1) < 30)) = true := by rfl)
    (hline : (apos.endLine == cpos.line) = true := by rfl) (hs : starEach [e] X.env = (false, eval e X.env) :: starEach [] X.env := by rfl) (hplain : (backTo cpos (starEach [] X.env)).any (·.1) = false := by rfl) :
    WE X (.Call (.Attribute o name apos) [e] [] cpos) r G Q := fun F0 T F H σ lk S =>
  Run.of (pe_bm pa slot hty mtU_ok peR (pa_cons peR pa_nil hs) hbase hfew hline hs hplain) ((h F0 T F H σ lk S).mono fun v H1 ⟨x, r1, G1, F1, e1, S1, k1, ds0, hx, h1⟩ => by
    obtain ⟨p, vs, rfl, z1, _⟩ := (S1.viewR k1 hx).lst S1.bas.fh
    obtain ⟨F1', e1', S1', hv⟩ := hold S1 k1
    refine ⟨.inl ⟨rfl, vs, .inl z1⟩, (h1 F0 T F1' H1 σ lk S1').mono fun w H2 ⟨y, r2, G2, F2, e2, S2, k2, dr, da, q1, q2, q3⟩ => ?_⟩
    obtain ⟨rr, h3, h4⟩ := q3 F0 T F2 G2 H2 r2 σ _ w S2 (hv F2 G2 H2 r2 dr e2 S2 q1) (S2.viewR k2 q2)
    exact ⟨_, MtR.post h3 _, h4, fun v H' ⟨z, F', m1, m2, m3, m4⟩ => ⟨z, r2, G2, F', ((e1.trans e1').trans e2).trans m1, m2, m3, m4⟩⟩)
def Cy.blk (X : Cy) (s : Shared) (H : Hp) (scope : Scope) (env : Env) (fp : List Addr) : Cy := { X.toCx.blk s H scope env fp with F0 := X.F0, T := X.T, QX := fun _ _ _ => False }
def BlkX (X : Cy) (scope : Scope) (Y : Cy) : Prop := ∃ (s : Shared) (H : Hp) (C : Addr) (cl : List (Str × Addr)) (fp : List Addr), Y = X.blk s H scope (compEnvC scope cl C X.env) fp
theorem BlkX.k {scope : Scope} {Y : Cy} (h : BlkX X scope Y) : Y.K = X.K := by obtain ⟨_, _, _, _, _, rfl⟩ := h; rfl
theorem BlkX.lk {scope : Scope} {Y : Cy} {F0 T : Hp} (h : BlkX X scope Y) (lk : Lk X F0 T) : Lk Y F0 T := by obtain ⟨_, _, _, _, _, rfl⟩ := h; exact ⟨lk.t, lk.f, lk.ft⟩
theorem BlkX.tk {scope : Scope} {Y : Cy} (h : BlkX X scope Y) : Y.Tk := by
  obtain ⟨_, _, _, _, _, rfl⟩ := h
  exact takes0.imp fun _ _ _ _ ⟨_, _, _, _, _, _, z⟩ => z
def wipeD (r : Env2) : List Nat → Env2
  | [] => r
  | i :: is => (wipeD r is).set i .no
theorem wipeD_len (r : Env2) : ∀ is, (wipeD r is).length = r.length
  | [] => rfl
  | i :: is => by unfold wipeD; rw [List.length_set, wipeD_len r is]
theorem Sta.wipe {K : PySem.W.Frag} {F0 T F : Hp} {G : GD} {H : Hp} {r : Env2} {σ σ' : L2.St} (S : Sta K F0 T F G H r σ') : ∀ (is : List Nat), L2.wipe σ' is = L2.wipe σ is → Sta K F0 T F G H (wipeD r is) (L2.wipe σ is) := by
  intro is e
  rw [← e]
  clear e
  have key : ∀ (is : List Nat) (i : Nat) (s : Sl), (wipeD r is)[i]? = some s → s = .no ∨ (r[i]? = some s ∧ (L2.wipe σ' is)[i]? = σ'[i]?) := by
    intro is
    induction is with
    | nil => intro i s h; exact .inr ⟨h, rfl⟩
    | cons j is ih =>
      intro i s h
      unfold wipeD at h
      unfold L2.wipe
      by_cases hj : j = i
      · subst hj
        by_cases hl : j < (wipeD r is).length
        · rw [List.getElem?_set_self hl] at h; left; cases h; rfl
        · rw [List.getElem?_eq_none (by rw [List.length_set]; omega)] at h; cases h
      · rw [List.getElem?_set_ne hj] at h ⊢
        exact ih i s h
  refine ⟨S.bas, by rw [wipeD_len, wipe_length]; exact S.len, fun i s h => ?_, fun i j d e' hij hi hj => ?_⟩
  · rcases key is i s h with z | ⟨z1, z2⟩
    · subst z; trivial
    · rw [z2]; exact S.sl i s z1
  · rcases key is i _ hi with z | ⟨z1, z2⟩
    · cases z
    · rcases key is j _ hj with y | ⟨y1, y2⟩
      · cases y
      · rw [z2, y2]; exact S.ap i j d e' hij z1 y1
/-- what is done in a comprehension's turn, over data; B: the contexts in which elt is read -/
def LcTurnB (X : Cy) (scope : Scope) (B : Cy → Prop) (tg elt : Expr) (ifs : List Expr) (is : List Nat) (d : D) (acc : List D) (r : Env2) (G : GD) (Nx : List D → Env2 → GD → Prop) : Prop :=
  ∀ Y, BlkX X scope Y → WG Y tg d r G is fun r1 G1 => match ifs with
    | [] => ∀ Y, B Y → WE Y elt r1 G1 fun z r2 G2 => ∃ d' r3, fz r2 z = some (d', r3) ∧ acc.length < LIM ∧ Nx (acc ++ [d']) (wipeD r3 is) G2
    | [c] => ∀ Y, BlkX X scope Y → WT Y c r1 G1 fun b r2 G2 => (b = true → ∀ Y, B Y → WE Y elt r2 G2 fun z r3 G3 => ∃ d' r4, fz r3 z = some (d', r4) ∧ acc.length < LIM ∧ Nx (acc ++ [d']) (wipeD r4 is) G3) ∧ (b = false → Nx acc (wipeD r2 is) G2)
    | _ => False
def LcTurn (X : Cy) (scope : Scope) (tg elt : Expr) (ifs : List Expr) (is : List Nat) (d : D) (acc : List D) (r : Env2) (G : GD) (Nx : List D → Env2 → GD → Prop) : Prop :=
  ∀ Y, BlkX X scope Y → WG Y tg d r G is fun r1 G1 => match ifs with
    | [] => ∀ Y, BlkX X scope Y → WE Y elt r1 G1 fun z r2 G2 => ∃ d' r3, fz r2 z = some (d', r3) ∧ acc.length < LIM ∧ Nx (acc ++ [d']) (wipeD r3 is) G2
    | [c] => ∀ Y, BlkX X scope Y → WT Y c r1 G1 fun b r2 G2 => (b = true → ∀ Y, BlkX X scope Y → WE Y elt r2 G2 fun z r3 G3 => ∃ d' r4, fz r3 z = some (d', r4) ∧ acc.length < LIM ∧ Nx (acc ++ [d']) (wipeD r4 is) G3) ∧ (b = false → Nx acc (wipeD r2 is) G2)
    | _ => False
/-- the readings of a block, over all its contexts -/
def blkG (X : Cy) (scope : Scope) (tg : Expr) : TG := fun v σ H Q => ∀ Y, BlkX X scope Y → RunG Y tg v σ H Q
def blkE (X : Cy) (scope : Scope) (e : Expr) : TE := fun σ H Q => ∀ Y, BlkX X scope Y → Run Y e σ H Q
def blkT (X : Cy) (scope : Scope) (ifs : List Expr) : TT := fun σ H Q => match ifs with
  | [] => Q true H
  | [c] => ∀ Y, BlkX X scope Y → RunT Y c σ H Q
  | _ => False
theorem blkT_ok {scope : Scope} {ifs : List Expr} (s : Shared) (H : Hp) (C : Addr) (cl : List (Str × Addr)) (fp : List Addr) : PTs (X.toCx.blk s H scope (compEnvC scope cl C X.env) fp) ifs (blkT X scope ifs) := by
  refine ⟨fun pins s' σ H' Q I h => ?_⟩
  match ifs, h with
  | [], h => exact pts_nil.run pins s' σ H' Q I h
  | [c], h => exact (pts_one ptR).run pins s' σ H' Q I (h (X.blk s H scope (compEnvC scope cl C X.env) fp) ⟨s, H, C, cl, fp, rfl⟩)
  | _ :: _ :: _, h => exact h.elim
/-- one turn, over heaps -/
theorem lc_turnB {scope : Scope} {elt : Expr} {ifs : List Expr} {is : List Nat} {d : D} {acc : List D} {Nx : List D → Env2 → GD → Prop} {F0 T F H : Hp} {σ : L2.St} {v : V} {L : Addr} {us : List V}
    (lk : Lk X F0 T) (S : Sta X.K F0 (upd T L (.lst us)) F G H r (L2.wipe σ is)) (hT : T L = none) (h0 : F0 L = none) (ha : RepL X.K F0 acc us) (rp : Rep X.K F d v) {B : Cy → Prop} {te : TE} (hBk : ∀ Y, B Y → Y.K = X.K) (hBl : ∀ Y, B Y → ∀ T', Lk X F0 T' → Lk Y F0 T') (hte : ∀ σ H Q, (∀ Y, B Y → Run Y elt σ H Q) → te σ H Q) (h : LcTurnB X scope B tg elt ifs is d acc r G Nx) {Pn : Hp → Prop}
    (hN : ∀ acc' us' r' G' F' H', Nx acc' r' G' → RepL X.K F' acc' us' → Sta X.K F0 (upd T L (.lst us')) F' G' H' r' (L2.wipe σ is) → Pn H') :
    blkG X scope tg v (L2.wipe σ is) H fun σ2 H2 => L2.wipe σ2 is = L2.wipe σ is ∧ blkT X scope ifs σ2 H2 fun b H3 =>
      if b = true then te σ2 H3 fun y H4 => ∃ acc', H4 L = some (.lst acc') ∧ acc'.length < sizeLine ∧ Pn (upd H4 L (.lst (acc' ++ [y]))) else Pn H3 := by
  have wi : L2.wipe (L2.wipe σ is) is = L2.wipe σ is := by
    have aux : ∀ (js : List Nat) (τ : L2.St), (∀ j ∈ js, ∀ x, τ[j]? = some x → x = none) → L2.wipe τ js = τ := by
      intro js
      induction js with
      | nil => intro τ _; rfl
      | cons j js ih =>
        intro τ hτ
        unfold L2.wipe
        rw [ih τ fun k hk => hτ k (List.mem_cons_of_mem _ hk)]
        refine List.ext_getElem? fun k => ?_
        by_cases hjk : j = k
        · subst hjk
          by_cases hl : j < τ.length
          · rw [List.getElem?_set_self hl]
            cases e : τ[j]? with
            | none => rw [List.getElem?_eq_none_iff] at e; omega
            | some x => rw [hτ j List.mem_cons_self x e]
          · rw [List.getElem?_eq_none (by rw [List.length_set]; omega), List.getElem?_eq_none (by omega)]
        · rw [List.getElem?_set_ne hjk]
    refine aux is _ fun j hj x hx => ?_
    cases x with
    | none => rfl
    | some y => exact absurd hj (wipe_some hx).2
  have fin : ∀ (F2 : Hp) (G2 : GD) (H4 : Hp) (r2 r3 : Env2) (σ2 : L2.St) (z : Res) (y : V) (d' : D), L2.wipe σ2 is = L2.wipe σ is → Sta X.K F0 (upd T L (.lst us)) F2 G2 H4 r2 σ2 → ResOk X.K (upd T L (.lst us)) F2 G2 H4 r2 σ2 z y → fz r2 z = some (d', r3) → acc.length < LIM → Nx (acc ++ [d']) (wipeD r3 is) G2 →
      ∃ acc', H4 L = some (.lst acc') ∧ acc'.length < sizeLine ∧ Pn (upd H4 L (.lst (acc' ++ [y]))) := fun F2 G2 H4 r2 r3 σ2 z y d' hw S2 k2 q1 q2 q3 => by
    obtain ⟨F3, e3, S3, rp3⟩ := S2.fz k2 q1
    have hL : H4 L = some (.lst us) := S3.bas.tk L _ upd_same
    have ha3 : RepL X.K F3 acc us := RepL.mono S3.bas.ff _ _ ha
    have fL : F3 L = none := by
      cases e : F3 L with
      | none => rfl
      | some u =>
        rcases S3.bas.ft L u e with zz | zz
        · rw [h0] at zz; cases zz
        · rw [upd_same] at zz; cases zz
    have gL : G2 L = none := by
      cases e : G2 L with
      | none => rfl
      | some u => have zz := S3.bas.gt L u e; rw [upd_same] at zz; cases zz
    refine ⟨us, hL, by rw [ha3.length]; exact lim_lt q2, hN _ (us ++ [y]) _ G2 F3 _ q3 (ha3.append (.one rp3)) ?_⟩
    have Sw := S3.wipe is hw
    refine ⟨⟨Sw.bas.ff, fun q u hq => ?_, fun q u hq => ?_, fun q u hq => ?_, Sw.bas.fg, fun q u hq => ?_, fun q u hq => ?_⟩, Sw.len, fun i s hs => ?_, Sw.ap⟩
    · have hqL : q ≠ L := fun zz => by subst zz; rw [fL] at hq; cases hq
      have := Sw.bas.ft q u hq
      rw [upd_ne hqL] at this ⊢
      exact this
    · have hqL : q ≠ L := fun zz => by subst zz; rw [fL] at hq; cases hq
      rw [upd_ne hqL]; exact Sw.bas.fh q u hq
    · have hqL : q ≠ L := fun zz => by subst zz; rw [gL] at hq; cases hq
      exact (Sw.bas.gh q u hq).mono (Ex.refl _) fun o ho => by rw [upd_ne hqL]; exact ho
    · have hqL : q ≠ L := fun zz => by subst zz; rw [gL] at hq; cases hq
      have := Sw.bas.gt q u hq
      rw [upd_ne hqL] at this ⊢
      exact this
    · by_cases hqL : q = L
      · subst hqL; rw [upd_same] at hq ⊢; exact hq
      · rw [upd_ne hqL] at hq ⊢
        exact Sw.bas.tk q u (by rw [upd_ne hqL]; exact hq)
    · have hh := Sw.sl i s hs
      cases s with
      | no => trivial
      | sh d => exact hh
      | own d =>
        obtain ⟨p, k1, k3, k4, k5, k6⟩ := hh
        have hpL : p ≠ L := fun zz => by subst zz; rw [upd_same] at k6; cases k6
        rw [upd_ne hpL] at k6
        exact ⟨p, k1, k3.mono (Ex.refl _) (fun u hu => by rw [upd_ne hpL]; exact hu), k4, k5, by rw [upd_ne hpL]; exact k6⟩
  intro Y hY pins s u I rv
  have lk' : Lk X F0 (upd T L (.lst us)) := lk.ext (Ex.new hT)
  have hYK : Y.K = X.K := hY.k
  have h' := h Y hY
  unfold WG at h'
  rw [hYK] at h'
  refine wpAny_mono (h' F0 (upd T L (.lst us)) F H (L2.wipe σ is) v (hY.lk lk') S rp pins s u I rv) (fun _ s' ⟨σ', H', I', hw, r', G', F', e', S', q⟩ => ⟨σ', H', I', hw.trans wi, ?_⟩) fun _ _ x => x
  have hw' := hw.trans wi
  match ifs, q with
  | [], q =>
    unfold blkT
    dsimp only
    rw [if_pos rfl]
    refine hte _ _ _ fun Z hZ => ?_
    have q' := q Z hZ
    unfold WE at q'
    rw [hBk Z hZ] at q'
    exact (q' F0 _ F' H' σ' (hBl Z hZ _ lk') S').mono fun y H4 ⟨z, r2, G2, F2, e2, S2, k2, d', r3, m1, m2, m3⟩ => fin F2 G2 H4 r2 r3 σ' z y d' hw' S2 k2 m1 m2 m3
  | [c], q =>
    intro Z hZ
    have q' := q Z hZ
    unfold WT at q'
    rw [hZ.k] at q'
    refine (q' F0 _ F' H' σ' (hZ.lk lk') S').mono fun b H3 ⟨r2, G2, F2, e2, S2, m1, m2⟩ => ?_
    cases b with
    | true =>
      rw [if_pos rfl]
      refine hte _ _ _ fun W hW => ?_
      have q2 := m1 rfl W hW
      unfold WE at q2
      rw [hBk W hW] at q2
      exact (q2 F0 _ F2 H3 σ' (hBl W hW _ lk') S2).mono fun y H4 ⟨z, r3, G3, F3, e3, S3, k3, d', r4, n1, n2, n3⟩ => fin F3 G3 H4 r3 r4 σ' z y d' hw' S3 k3 n1 n2 n3
    | false =>
      rw [if_neg Bool.false_ne_true]
      exact hN acc us _ G2 F2 H3 (m2 rfl) (RepL.mono S2.bas.ff _ _ ha) (S2.wipe is hw')
  | _ :: _ :: _, q => exact q.elim
/-- what a comprehension's loop keeps -/
def LcInv (K : PySem.W.Frag) (T Fa : Hp) (τ : L2.St) (L : Addr) (I : List D → Env2 → GD → Prop) : Hp → Prop := fun H' =>
  ∃ acc us r' G' F', RepL K F' acc us ∧ Sta K Fa (upd T L (.lst us)) F' G' H' r' τ ∧ I acc r' G'
theorem lc_begin {K : PySem.W.Frag} {F0 T F H : Hp} {σ : L2.St} {is : List Nat} {L : Addr} {I : List D → Env2 → GD → Prop} (S : Sta K F0 T F G H r σ) (hL : H L = none) (h0 : I [] (wipeD r is) G) : LcInv K T F (L2.wipe σ is) L I (upd H L (.lst [])) := by
  obtain ⟨f1, f2, f3⟩ := S.bas.freshF hL
  have Sb := (S.newH (o := .lst []) hL).base.wipe (σ := σ) is rfl
  refine ⟨[], [], _, G, F, rfl, ⟨⟨Sb.bas.ff, fun q u hq => .inl hq, Sb.bas.fh, Sb.bas.gh, Sb.bas.fg, fun q u hq => ?_, fun q u hq => ?_⟩, Sb.len, fun i s hs => ?_, Sb.ap⟩, h0⟩
  · have hq' : q ≠ L := fun z => by subst z; rw [f2] at hq; cases hq
    rw [upd_ne hq']; exact Sb.bas.gt q u hq
  · by_cases hq' : q = L
    · subst hq'; rw [upd_same] at hq ⊢; exact hq
    · rw [upd_ne hq'] at hq; exact Sb.bas.tk q u hq
  · have hh := Sb.sl i s hs
    cases s with
    | no => trivial
    | sh d => exact hh
    | own d =>
      obtain ⟨p, k1, k2, k3, k4, k5⟩ := hh
      have hp : p ≠ L := fun z => by
        subst z
        by_cases hi : i ∈ is
        · have : (L2.wipe σ is)[i]? ≠ some (some (V.ref p)) := fun z => (wipe_some z).2 hi
          exact this k1
        · have e := (wipe_some k1).1
          have hr : r[i]? = some (.own d) := by
            have aux : ∀ (js : List Nat), i ∉ js → (wipeD r js)[i]? = r[i]? := by
              intro js
              induction js with
              | nil => intro _; rfl
              | cons j js ih =>
                intro hj
                unfold wipeD
                rw [List.getElem?_set_ne (fun z => hj (by rw [z]; exact List.mem_cons_self)), ih (fun z => hj (List.mem_cons_of_mem _ z))]
            rw [aux is hi] at hs
            exact hs
          exact S.freshR hL i d hr e
      exact ⟨p, k1, k2, k3, k4, by rw [upd_ne hp]; exact k5⟩
theorem lc_end {K : PySem.W.Frag} {F0 T Fa : Hp} {Ga : GD} {Ha H' : Hp} {σ : L2.St} {is : List Nat} {L : Addr} {I : List D → Env2 → GD → Prop} {Q : Res → Env2 → GD → Prop} (B : Bas K F0 T Fa Ga Ha) (hL : Ha L = none) (hσ : Wk r (wipeD r is)) (S0 : Sta K F0 T Fa Ga Ha r σ) (h : LcInv K T Fa (L2.wipe σ is) L I H') (he : ∀ acc r' G', I acc r' G' → Q (.fr (.lst acc)) r' G') :
    PostE K F0 T Fa σ Q (.ref L) H' := by
  obtain ⟨acc, us, r', G', F', ha, S, q⟩ := h
  obtain ⟨f1, f2, f3⟩ := B.freshF hL
  have fL : F' L = none := by
    cases e : F' L with
    | none => rfl
    | some u =>
      rcases S.bas.ft L u e with zz | zz
      · rw [f1] at zz; cases zz
      · rw [upd_same] at zz; cases zz
  have gL : G' L = none := by
    cases e : G' L with
    | none => rfl
    | some u => have zz := S.bas.gt L u e; rw [upd_same] at zz; cases zz
  have tsub : ∀ q u, T q = some u → upd T L (.lst us) q = some u := fun q u hq => by
    have hqL : q ≠ L := fun zz => by subst zz; rw [f3] at hq; cases hq
    rw [upd_ne hqL]; exact hq
  have tdown : ∀ q, upd T L (.lst us) q = none → T q = none := fun q hq => by
    cases hf : T q with
    | none => rfl
    | some u => rw [tsub q u hf] at hq; cases hq
  have slots : ∀ (i : Nat) (s : Sl), r'[i]? = some s → SlotOk K T F' G' H' s σ[i]? := fun i s hs => by
    have hh := S.sl i s hs
    cases s with
    | no => trivial
    | sh d => obtain ⟨v, k1, k2⟩ := hh; exact ⟨v, (wipe_some k1).1, k2⟩
    | own d => obtain ⟨p, k1, k2, k3, k4, k5⟩ := hh; exact ⟨p, (wipe_some k1).1, k2, k3, k4, tdown p k5⟩
  have St : Sta K F0 T F' G' H' r' σ := by
    refine ⟨⟨B.ff.trans S.bas.ff, fun q u hq => ?_, S.bas.fh, S.bas.gh, S.bas.fg, fun q u hq => tdown q (S.bas.gt q u hq), fun q u hq => S.bas.tk q u (tsub q u hq)⟩, by rw [S.len, wipe_length], slots, fun i j d e hij hi hj z => ?_⟩
    · rcases S.bas.ft q u hq with zz | zz
      · exact B.ft q u zz
      · exact .inr (tdown q zz)
    · obtain ⟨p, k1, _⟩ := S.ownS hi
      obtain ⟨p2, m1, _⟩ := S.ownS hj
      refine S.ap i j d e hij hi hj ?_
      rw [(wipe_some k1).1, (wipe_some m1).1] at z
      rw [k1, m1, z]
  refine ⟨.fr (.lst acc), r', G', F', S.bas.ff, St, ⟨L, rfl, ⟨us, S.bas.tk L _ upd_same, ha⟩, fL, gL, f3, fun i d hi z => ?_⟩, he acc r' G' q⟩
  obtain ⟨p, k1, _, _, _, k5⟩ := S.ownS hi
  have e1 := (wipe_some k1).1
  rw [e1] at z; cases z
  rw [upd_same] at k5; cases k5
theorem wk_wipe (r : Env2) : ∀ is, Wk r (wipeD r is)
  | [] => Wk.refl r
  | i :: is => by
    have ih := wk_wipe r is
    unfold wipeD
    have aux : ∀ {a b : Env2}, Wk a b → ∀ i, Wk a (b.set i .no) := by
      intro a b w
      induction w with
      | nil => intro i; exact .nil
      | no w ih =>
        intro i
        cases i with
        | zero => exact .no w
        | succ i => exact .no (ih i)
      | eq w ih =>
        intro i
        cases i with
        | zero => exact .no w
        | succ i => exact .eq (ih i)
    exact aux ih i
/-- one step of a comprehension over items -/
theorem lc_stepB {scope : Scope} {elt : Expr} {ifs : List Expr} {is : List Nat} {d : D} {J : It} {ds : List D} {i : Nat} {T Fa : Hp} {H H' : Hp} {σ : L2.St} {v : V} {L : Addr} {I I' : List D → Env2 → GD → Prop} (lk : Lk X Fa T) (hL : Fa L = none) (hT : T L = none) (hJ : ItD X.K J Fa ds) (hi : ds[i]? = some d) (h : LcInv X.K T Fa (L2.wipe σ is) L I H) (y : J.yld i H v H')
    {B : Cy → Prop} {te : TE} (hBk : ∀ Y, B Y → Y.K = X.K) (hBl : ∀ Y, B Y → ∀ F' T', Ex Fa F' → Lk X F' T' → Lk Y F' T') (hte : ∀ σ H Q, (∀ Y, B Y → Run Y elt σ H Q) → te σ H Q) (hs : ∀ acc r' G', I acc r' G' → LcTurnB X scope B tg elt ifs is d acc r' G' I') :
    blkG X scope tg v (L2.wipe σ is) H' fun σ2 H2 => L2.wipe σ2 is = L2.wipe σ is ∧ blkT X scope ifs σ2 H2 fun b H3 =>
      if b = true then te σ2 H3 fun y H4 => ∃ acc', H4 L = some (.lst acc') ∧ acc'.length < sizeLine ∧ LcInv X.K T Fa (L2.wipe σ is) L I' (upd H4 L (.lst (acc' ++ [y]))) else LcInv X.K T Fa (L2.wipe σ is) L I' H3 := by
  obtain ⟨acc, us, r', G', F1, ha1, S1, q⟩ := h
  obtain ⟨F', ef, S, rp⟩ := hJ.item S1.bas.ff S1 hi y
  have ha := RepL.mono ef _ _ ha1
  have fL : F' L = none := by
    cases e : F' L with
    | none => rfl
    | some u =>
      rcases S.bas.ft L u e with zz | zz
      · rw [hL] at zz; cases zz
      · rw [upd_same] at zz; cases zz
  have lk' : Lk X F' T := ⟨lk.t, lk.f.trans S.bas.ff, fun a o ho => (S.bas.ft a o ho).elim (fun z => lk.ft a o z) fun z => .inr (none_of lk.t (none_of (Ex.new hT) z))⟩
  refine lc_turnB lk' S.base hT fL ha rp hBk (fun Y hY T' l2 => hBl Y hY F' T' S.bas.ff l2) hte (hs acc r' G' q) fun acc' us' r2 G2 F2 H2 q2 ha2 S2 => ?_
  refine ⟨acc', us', r2, G2, F2, ha2, ⟨⟨S.bas.ff.trans S2.bas.ff, fun q u hq => ?_, S2.bas.fh, S2.bas.gh, S2.bas.fg, S2.bas.gt, S2.bas.tk⟩, S2.len, S2.sl, S2.ap⟩, q2⟩
  rcases S2.bas.ft q u hq with zz | zz
  · rcases S.bas.ft q u zz with yy | yy
    · exact .inl yy
    · by_cases hqL : q = L
      · subst hqL; rw [fL] at zz; cases zz
      · rw [upd_ne hqL] at yy ⊢; exact .inr yy
  · exact .inr zz
theorem lc_step {scope : Scope} {elt : Expr} {ifs : List Expr} {is : List Nat} {d : D} {J : It} {ds : List D} {i : Nat} {T Fa : Hp} {H H' : Hp} {σ : L2.St} {v : V} {L : Addr} {I I' : List D → Env2 → GD → Prop} (lk : Lk X Fa T) (hL : Fa L = none) (hT : T L = none) (hJ : ItD X.K J Fa ds) (hi : ds[i]? = some d) (h : LcInv X.K T Fa (L2.wipe σ is) L I H) (y : J.yld i H v H')
    (hs : ∀ acc r' G', I acc r' G' → LcTurn X scope tg elt ifs is d acc r' G' I') :
    blkG X scope tg v (L2.wipe σ is) H' fun σ2 H2 => L2.wipe σ2 is = L2.wipe σ is ∧ blkT X scope ifs σ2 H2 fun b H3 =>
      if b = true then blkE X scope elt σ2 H3 fun y H4 => ∃ acc', H4 L = some (.lst acc') ∧ acc'.length < sizeLine ∧ LcInv X.K T Fa (L2.wipe σ is) L I' (upd H4 L (.lst (acc' ++ [y]))) else LcInv X.K T Fa (L2.wipe σ is) L I' H3 :=
  lc_stepB (B := BlkX X scope) lk hL hT hJ hi h y (fun _ h => h.k) (fun _ h _ _ _ lk => h.lk lk) (fun _ _ _ h => h) hs
/-- [elt for tg in e if ..] -/
theorem lcI {scope : Scope} {elt : Expr} {ifs : List Expr} {own : List (Str × Nat)} {Q : Res → Env2 → GD → Prop} {F0 T F H : Hp} {σ : L2.St} (lk : Lk X F0 T) (S : Sta X.K F0 T F G H r σ)
    (h : WI X tg e r G fun ds r2 G1 => ∃ I : Nat → List D → Env2 → GD → Prop, I 0 [] (wipeD r2 (own.map (·.2))) G1 ∧ (∀ (k : Nat) (d : D) (acc : List D) (r3 : Env2) (G3 : GD), ds[k]? = some d → I k acc r3 G3 → LcTurn X scope tg elt ifs (own.map (·.2)) d acc r3 G3 (I (k + 1))) ∧
      ∀ acc r3 G3, I ds.length acc r3 G3 → Q (.fr (.lst acc)) r3 G3) : tLc (RunI X tg e) (blkG X scope tg) (blkT X scope ifs) (blkE X scope elt) (own.map (·.2)) σ H (PostE X.K F0 T F σ Q) := by
  refine (h F0 T F H σ lk S).mono fun J H1 ⟨ds, r2, G1, Fa, e1, Sa, hJ, I, i0, it, ie⟩ L hL => ?_
  obtain ⟨f1, f2, f3⟩ := Sa.bas.freshF hL
  refine ⟨fun i m H' => m = ds.length - i ∧ i ≤ ds.length ∧ LcInv X.K T Fa (L2.wipe σ (own.map (·.2))) L (I i) H', ⟨ds.length, by simp, Nat.zero_le _, lc_begin Sa hL i0⟩, ?_⟩
  rintro i m H' ⟨rfl, hi, hI⟩
  obtain ⟨_, _, _, _, F', _, S', _⟩ := id hI
  obtain ⟨j1, j2⟩ := hJ F' H' S'.bas.ff S'.bas.fh
  by_cases hlt : i < ds.length
  · obtain ⟨j3, _⟩ := j2 i ds[i] (List.getElem?_eq_getElem hlt)
    refine .inr ⟨j3, fun H2 => LcInv X.K T Fa (L2.wipe σ (own.map (·.2))) L (I (i + 1)) H2, fun H2 p2 => ⟨ds.length - (i + 1), by omega, rfl, hlt, p2⟩, fun x H2 y => ?_⟩
    exact lc_step (lk.base Sa.bas) f1 f3 hJ (List.getElem?_eq_getElem hlt) hI y fun acc r' G' q => it i ds[i] acc r' G' (List.getElem?_eq_getElem hlt) q
  · have e : i = ds.length := by omega
    subst e
    exact .inl ⟨j1, (lc_end Sa.bas hL (wk_wipe _ _) Sa hI fun acc r' G' q => ie acc r' G' q).ext e1⟩
theorem blkG_ok {scope : Scope} (s : Shared) (H : Hp) (C : Addr) (cl : List (Str × Addr)) (fp : List Addr) : PG (X.toCx.blk s H scope (compEnvC scope cl C X.env) fp) tg (blkG X scope tg) :=
  ⟨fun pins s' σ H' v u Q I rv h => h (X.blk s H scope (compEnvC scope cl C X.env) fp) ⟨s, H, C, cl, fp, rfl⟩ pins s' u I rv⟩
theorem blkE_ok {scope : Scope} {elt : Expr} (s : Shared) (H : Hp) (C : Addr) (cl : List (Str × Addr)) (fp : List Addr) : PE (X.toCx.blk s H scope (compEnvC scope cl C X.env) fp) elt (blkE X scope elt) :=
  ⟨fun pins s' σ H' Q I h => h (X.blk s H scope (compEnvC scope cl C X.env) fp) ⟨s, H, C, cl, fp, rfl⟩ pins s' I⟩
theorem we_lc {scope : Scope} {elt : Expr} {ifs : List Expr} (own : List (Str × Nat)) {Q : Res → Env2 → GD → Prop} (hc : X.calm = true) (hN : X.N.Nodup) (ok : BlkOk X.N X.env.scope scope own)
    (h : WI X tg e r G fun ds r2 G1 => ∃ I : Nat → List D → Env2 → GD → Prop, I 0 [] (wipeD r2 (own.map (·.2))) G1 ∧ (∀ (k : Nat) (d : D) (acc : List D) (r3 : Env2) (G3 : GD), ds[k]? = some d → I k acc r3 G3 → LcTurn X scope tg elt ifs (own.map (·.2)) d acc r3 G3 (I (k + 1))) ∧
      ∀ acc r3 G3, I ds.length acc r3 G3 → Q (.fr (.lst acc)) r3 G3) (hs : ∀ x, foldedSetIterable e X.env x = pure x := by intro _; rfl) : WE X (.ListComp elt [⟨tg, e, ifs, 0⟩] scope pos) r G Q := fun F0 T F H σ lk S =>
  Run.of (pe_lc hc hN piR ok blkG_ok blkT_ok blkE_ok hs) (lcI lk S h)
/-- y = [..] -/
theorem ws_setLc {scope : Scope} {elt : Expr} {ifs : List Expr} (own : List (Str × Nat)) (i : Nat) {y : Str} {py spos : Pos} (hc : X.calm = true) (hN : X.N.Nodup) (hy : X.N[i]? = some y) (hyl : X.env.scope.names.lookup y = some .local)
    (hsw : swapsWith (.ListComp elt [⟨tg, e, ifs, 0⟩] scope pos) (some (.Name y py)) spos.line X.env = pure true) (ok : BlkOk X.N X.env.scope scope own)
    (h : WI X tg e r G fun ds r2 G1 => ∃ I : Nat → List D → Env2 → GD → Prop, I 0 [] (wipeD r2 (own.map (·.2))) G1 ∧ (∀ (k : Nat) (d : D) (acc : List D) (r3 : Env2) (G3 : GD), ds[k]? = some d → I k acc r3 G3 → LcTurn X scope tg elt ifs (own.map (·.2)) d acc r3 G3 (I (k + 1))) ∧
      ∀ acc r3 G3, I ds.length acc r3 G3 → i < r3.length ∧ ∃ r2, putS r3 i (.fr (.lst acc)) = some r2 ∧ D0.nx r2 G3) (hs : ∀ x, foldedSetIterable e X.env x = pure x := by intro _; rfl) : WS X (.Assign [.Name y py] (.ListComp elt [⟨tg, e, ifs, 0⟩] scope pos) spos) r G D0 := fun F0 T F H σ lk S =>
  RunS.of (ps_setLc hc hN hy hyl hsw piR ok blkG_ok blkT_ok blkE_ok hs) (by
    have q := lcI (Q := fun y r1 G1 => i < r1.length ∧ ∃ r2, putS r1 i y = some r2 ∧ D0.nx r2 G1) (own := own) (scope := scope) (elt := elt) (ifs := ifs) lk S h
    refine RunI.mono q fun J H1 h1 L hL => ?_
    obtain ⟨W, w0, ws⟩ := h1 L hL
    refine ⟨W, w0, fun i' m H hW => (ws i' m H hW).imp (fun ⟨z1, z2⟩ => ⟨z1, ?_⟩) id⟩
    obtain ⟨y, r1, G1, F1, e1, S1, k1, hi, r2, q1, q2⟩ := z2
    obtain ⟨F2, e2, S2⟩ := S1.putS k1 hi q1
    exact ⟨r2, G1, F2, S2, q2⟩)
end
theorem Sta.gput {K : PySem.W.Frag} {F0 T F : Hp} {G : GD} {H : Hp} {r : Env2} {σ : L2.St} (S : Sta K F0 T F G H r σ) {b : Addr} {d0 d : D} (hG : G b = some d0) {o' : HO} (ho : Own K F (upd H b o') b d) : Sta K F0 T F (updG G b d) (upd H b o') r σ := by
  have f1 := S.bas.fg _ _ hG
  have f2 := S.bas.gt _ _ hG
  refine ⟨⟨S.bas.ff, S.bas.ft, fun a u e => ?_, fun a u e => ?_, fun a u e => ?_, fun a u e => ?_, fun a u e => ?_⟩, S.len, fun i s e => ?_, S.ap⟩
  · rw [upd_ne (ne_of_none e f1)]; exact S.bas.fh a u e
  · by_cases h : a = b
    · subst h; rw [updG_same] at e; cases e; exact ho
    · rw [updG_ne h] at e
      exact (S.bas.gh a u e).mono (Ex.refl _) fun o q => by rw [upd_ne h]; exact q
  · by_cases h : a = b
    · subst h; exact f1
    · rw [updG_ne h] at e; exact S.bas.fg a u e
  · by_cases h : a = b
    · subst h; exact f2
    · rw [updG_ne h] at e; exact S.bas.gt a u e
  · rw [upd_ne (ne_of_none e f2)]; exact S.bas.tk a u e
  · have q := S.sl i s e
    cases s with
    | no => trivial
    | sh d => exact q
    | own d =>
      obtain ⟨p, q1, q2, q3, q4, q5⟩ := q
      have hp : p ≠ b := fun z => by subst z; rw [q4] at hG; cases hG
      exact ⟨p, q1, q2.mono (Ex.refl _) (fun u hu => by rw [upd_ne hp]; exact hu), q3, by rw [updG_ne hp]; exact q4, q5⟩
/-- a new object of the open region -/
theorem Sta.gnew {K : PySem.W.Frag} {F0 T F : Hp} {G : GD} {H : Hp} {r : Env2} {σ : L2.St} (S : Sta K F0 T F G H r σ) {p : Addr} {d : D} (h : ResOk K T F G H r σ (.fr d) (.ref p)) : Sta K F0 T F (updG G p d) H r σ := by
  obtain ⟨p', e, h2, h3, h4, h5, h6⟩ := h
  cases e
  refine ⟨⟨S.bas.ff, S.bas.ft, S.bas.fh, fun a u e => ?_, fun a u e => ?_, fun a u e => ?_, S.bas.tk⟩, S.len, fun i s e => ?_, S.ap⟩
  · by_cases h : a = p
    · subst h; rw [updG_same] at e; cases e; exact h2
    · rw [updG_ne h] at e; exact S.bas.gh a u e
  · by_cases h : a = p
    · subst h; exact h3
    · rw [updG_ne h] at e; exact S.bas.fg a u e
  · by_cases h : a = p
    · subst h; exact h5
    · rw [updG_ne h] at e; exact S.bas.gt a u e
  · have q := S.sl i s e
    cases s with
    | no => trivial
    | sh d => exact q
    | own d =>
      obtain ⟨p', q1, q2, q3, q4, q5⟩ := q
      have hp : p' ≠ p := fun z => by subst z; exact h6 i d e q1
      exact ⟨p', q1, q2, q3, by rw [updG_ne hp]; exact q4, q5⟩
section
variable {X : Cy} {e e2 a b c o tg : Expr} {es : List Expr} {st : Stmt} {sts rest body orelse : List Stmt} {r : Env2} {G : GD} {pos tpos apos cpos p0 : Pos} {D0 : EndsD}
/-- a fresh result goes to the open region -/
theorem we_open {Q : Res → Env2 → GD → Prop} (h : WE X e r G fun x r1 G1 => ∃ d, x = .fr d ∧ ∀ p, G1 p = none → Q (.sh (.adr p)) r1 (updG G1 p d)) : WE X e r G Q := fun F0 T F H σ lk S =>
  (h F0 T F H σ lk S).mono fun v H1 ⟨x, r1, G1, F1, e1, S1, k1, d, hx, q⟩ => by
    subst hx
    obtain ⟨p, rfl, h2, h3, h4, h5, h6⟩ := id k1
    exact ⟨.sh (.adr p), r1, updG G1 p d, F1, e1, S1.gnew k1, rfl, q p h4⟩
/-- o[i] = e, o a list of the open region -/
theorem ws_setG (h : WE X e r G fun y r1 G1 => ∃ d r1', fz r1 y = some (d, r1') ∧ WE X o r1' G1 fun x r2 G2 => ∃ g, x = .sh (.adr g) ∧ WE X a r2 G2 fun z r3 G3 => ∃ k ds m, vw r3 z = some (.int k) ∧ G3 g = some (.lst ds) ∧ ixN ds.length k = some m ∧ D0.nx r3 (updG G3 g (.lst (ds.set m d))))
    (ha : ∀ v, assign (.Subscript o a tpos) X.env v = (do
      let ov ← holding [v] (eval o X.env)
      let iv ← holding [v, ov] (eval a X.env)
      standAt tpos
      holding [v, ov, iv] (setItem ov iv v)
      release [v, ov, iv] []) := by intro _; rfl)
    (hs : swapsWithSole [.Subscript o a tpos] e pos.line X.env = pure false := by rfl) (hw : swappedStores [.Subscript o a tpos] e X.env = pure none := by rfl)
    (h1 : (assignEach [.Subscript o a tpos] X.env).map (·.2) = [assign (.Subscript o a tpos) X.env] := by rfl) : WS X (.Assign [.Subscript o a tpos] e pos) r G D0 := fun F0 T F H σ lk S =>
  RunS.of (ps_asg peR (pg_sub peR peR set_list ha) hs hw h1) ((h F0 T F H σ lk S).mono fun v H1 ⟨y, r1, G1, F1, e1, S1, k1, d, r1', q1, q2⟩ => by
    obtain ⟨F1', e1', S1', rp⟩ := S1.fz k1 q1
    refine (q2 F0 T F1' H1 σ lk S1').mono fun vo H2 ⟨x, r2, G2, F2, e2, S2, k2, g, hx, q3⟩ => ?_
    subst hx
    cases (show vo = .ref g from k2)
    refine (q3 F0 T F2 H2 σ lk S2).mono fun vi H3 ⟨z, r3, G3, F3, e3, S3, k3, k, ds, m, q4, q5, q6, q7⟩ => ?_
    cases (S3.view k3 q4).int
    obtain ⟨vs, z1, z2⟩ := S3.bas.gh _ _ q5
    exact ⟨g, vs, k, m, rfl, rfl, z1, by rw [z2.length]; exact q6, r3, _, F3, S3.gput (d := .lst (ds.set m d)) q5 ⟨_, upd_same, z2.set m (Rep.mono (e2.trans e3) _ _ rp)⟩, q7⟩)
theorem mutG_end {id : String} {ds args : List D} {g : Addr} {F0 T F F1 H : Hp} {σ : L2.St} {us : List V} {Q : Res → Env2 → GD → Prop} (e1 : Ex F F1) (S : Sta X.K F0 T F1 G H r σ) (hg : G g = some (.lst ds)) (ha : RepL X.K F1 args us)
    (h : MutW X id ds args fun res ds' => Q (.sh res) r (updG G g (.lst ds'))) : mtU X id (.ref g) us H (PostE X.K F0 T F σ Q) := by
  obtain ⟨vs, h2, h3⟩ := S.bas.gh _ _ hg
  obtain ⟨rr, k1, k2⟩ := h F1 H g vs us h2 (S.bas.fg _ _ hg) S.bas.fh h3 ha
  refine ⟨_, MtR.post k1 _, k2, fun v' H' ⟨vs', res, ds', z1, z2, z3, z4⟩ => ?_⟩
  subst z1
  exact ⟨.sh res, _, _, F1, e1, S.gput (d := .lst ds') hg ⟨vs', upd_same, z3⟩, z2, z4⟩
theorem we_m1G {name : Str} {id : String} {Q : Res → Env2 → GD → Prop} (pa : PlainAttrs "list") (slot : Slot "list" name id) (hty : typeOf (.builtin id) = pure (.type "method_descriptor"))
    (h : WE X o r G fun x r1 G1 => ∃ g ds0, x = .sh (.adr g) ∧ G1 g = some (.lst ds0) ∧ WE X e r1 G1 fun y r2 G2 => ∃ d r3 ds, fz r2 y = some (d, r3) ∧ G2 g = some (.lst ds) ∧ MutW X id ds [d] fun res ds' => Q (.sh res) r3 (updG G2 g (.lst ds')))
    (hbase : attributeBase o name X.env (eval o X.env) = eval o X.env := by rfl)
    (hfew : ((backTo cpos (starEach [e] X.env)).all (fun x => !x.1) && (backToKw cpos (keywordEach [] X.env)).all (fun x => x.1.isSome) && decide (([e] : List Expr).length + ([] : List Keyword).length + (if ([] : List Keyword).isEmpty then 0 else 1) < 30)) = true := by rfl)
    (hline : (apos.endLine == cpos.line) = true := by rfl) (hs : starEach [e] X.env = (false, eval e X.env) :: starEach [] X.env := by rfl) (hplain : (backTo cpos (starEach [] X.env)).any (·.1) = false := by rfl) :
    WE X (.Call (.Attribute o name apos) [e] [] cpos) r G Q := fun F0 T F H σ lk S =>
  Run.of (pe_bm pa slot hty mtU_ok peR (pa_cons peR pa_nil hs) hbase hfew hline hs hplain) ((h F0 T F H σ lk S).mono fun v H1 ⟨x, r1, G1, F1, e1, S1, k1, g, ds0, hx, hg0, h1⟩ => by
    subst hx
    cases (show v = .ref g from k1)
    obtain ⟨vs, h2, h3⟩ := S1.bas.gh _ _ hg0
    refine ⟨.inl ⟨rfl, vs, .inl (.inl h2)⟩, (h1 F0 T F1 H1 σ lk S1).mono fun w H2 ⟨y, r2, G2, F2, e2, S2, k2, d, r3, ds, q1, q2, q3⟩ => ?_⟩
    obtain ⟨F3, e3, S3, rp⟩ := S2.fz k2 q1
    exact mutG_end ((e1.trans e2).trans e3) S3 q2 (.one rp) q3)
theorem Sta.lock {K : PySem.W.Frag} {F0 T F : Hp} {G : GD} {H : Hp} {r : Env2} {σ : L2.St} (S : Sta K F0 T F G H r σ) {p : Addr} {ks : List Key} {ds : List D} {vs : List V} {o : Obj} (hp : H p = some (.dK (ks.zip vs))) (hl : ks.length = ds.length) (hv : RepL K F ds vs) (h1 : F p = none) (h2 : G p = none) (h3 : T p = none)
    (h4 : ∀ (i : Nat) (e : D), r[i]? = some (.own e) → σ[i]? ≠ some (some (.ref p))) :
    Ex F (upd F p (.frz o (.dK (ks.zip vs)))) ∧ Sta K F0 T (upd F p (.frz o (.dK (ks.zip vs)))) G (upd H p (.frz o (.dK (ks.zip vs)))) r σ ∧ Rep K (upd F p (.frz o (.dK (ks.zip vs)))) (.dic ks ds) (.ref p) := by
  have ef : Ex F (upd F p (.frz o (.dK (ks.zip vs)))) := Ex.new h1
  refine ⟨ef, ⟨(S.bas.put h1 h2 h3).frz upd_same h1 h2 h3, S.len, fun i s e => ?_, S.ap⟩, p, o, vs, rfl, upd_same, hl, RepL.mono ef _ _ hv⟩
  have q := S.sl i s e
  cases s with
  | no => trivial
  | sh d => obtain ⟨v, q1, q2⟩ := q; exact ⟨v, q1, Rep.mono ef _ _ q2⟩
  | own d =>
    obtain ⟨p', q1, q2, q3, q4, q5⟩ := q
    have hne : p' ≠ p := fun z => by subst z; exact h4 i d e q1
    exact ⟨p', q1, q2.mono ef fun u hu => by rw [upd_ne hne]; exact hu, by rw [upd_ne hne]; exact q3, q4, q5⟩
/-- a dict that was just made -/
theorem we_lock {Q : Res → Env2 → GD → Prop} (h : WE X e r G fun x r1 G1 => ∃ ks ds, x = .fr (.dic ks ds) ∧ Q (.sh (.dic ks ds)) r1 G1) : WE X e r G Q := fun F0 T F H σ lk S pins s I =>
  wpAny_mono (h F0 T F H σ lk S pins s I) (fun u s' ⟨v, H', I', rv, x, r1, G1, F1, e1, S1, k1, ks, ds, hx, q⟩ => by
    subst hx
    obtain ⟨p, rfl, ⟨vs, z1, z2, z3⟩, h3, h4, h5, h6⟩ := k1
    obtain ⟨o, I2⟩ := I'.lock z1 (by first | trivial | exact .inl rfl | decide)
    obtain ⟨ef, S2, rp⟩ := S1.lock (o := o) z1 z2 z3 h3 h4 h5 h6
    exact ⟨.ref p, _, I2, rv, .sh (.dic ks ds), r1, G1, _, e1.trans ef, S2, rp, q⟩) fun _ _ x => x
end
section
variable {X : Cy} {e a b c o tg : Expr} {es : List Expr} {st : Stmt} {sts rest body orelse : List Stmt} {r : Env2} {G : GD} {pos tpos apos cpos p0 : Pos} {D0 : EndsD}
theorem chain {op op' : CmpOp} {Q : Res → Env2 → GD → Prop} {F0 T F H : Hp} {σ : L2.St} (lk : Lk X F0 T) (S : Sta X.K F0 T F G H r σ)
    (h : WE X a r G fun x r1 G1 => WE X b r1 G1 fun y r2 G2 => ∃ da db, VwR r2 G2 x da ∧ VwR r2 G2 y db ∧ OpW X (compareOp op) da db fun z => ∃ k, z = .sh (.bl k) ∧ (k = true → WE X c r2 G2 fun w r3 G3 => ∃ db' dc, VwR r3 G3 y db' ∧ VwR r3 G3 w dc ∧ OpW X (compareOp op') db' dc fun u => Q u r3 G3) ∧ (k = false → Q (.sh (.bl false)) r2 G2)) :
    tChain (opU X (compareOp op)) (opU X (compareOp op')) (Run X a) (Run X b) (Run X c) σ H (PostE X.K F0 T F σ Q) := by
  refine (h F0 T F H σ lk S).mono fun va H1 ⟨x, r1, G1, F1, e1, S1, k1, h1⟩ => ?_
  obtain ⟨F1', e1', S1', hv⟩ := hold S1 k1
  refine (h1 F0 T F1' H1 σ lk S1').mono fun vb H2 ⟨y, r2, G2, F2, e2, S2, k2, da, db, q1, q2, q3⟩ => ?_
  obtain ⟨F2', e2', S2', hw⟩ := hold S2 k2
  obtain ⟨rr, h3, h4⟩ := q3 F0 T F2' G2 H2 r2 σ va vb S2' (hv F2' G2 H2 r2 da (e2.trans e2') S2' q1) (hw F2' G2 H2 r2 db (Ex.refl _) S2' q2)
  refine ⟨_, (show OpR X (compareOp op) (fun u w H Q' => rr u w H _ ∧ ∀ v H', _ → Q' v H') from fun pins s σ H x y v u Q' I rx ry ⟨q, m⟩ => wpAny_mono (h3 pins s σ H x y v u _ I rx ry q) (fun _ _ ⟨v, H', I', rl, q⟩ => ⟨v, H', I', rl, m v H' q⟩) fun _ _ x => x), h4, fun v H3 ⟨z, F3, e3, S3, k3, k, hz, m1, m2⟩ => ?_⟩
  subst hz
  refine ⟨k, k3, ?_⟩
  cases k with
  | false =>
    rw [if_neg Bool.false_ne_true]
    exact ⟨.sh (.bl false), r2, G2, F3, (((e1.trans e1').trans e2).trans e2').trans e3, S3, rfl, m2 rfl⟩
  | true =>
    rw [if_pos rfl]
    refine (m1 rfl F0 T F3 H3 σ lk S3).mono fun vc H4 ⟨w, r3, G3, F4, e4, S4, k4, db', dc, n1, n2, n3⟩ => ?_
    obtain ⟨rr2, h5, h6⟩ := n3 F0 T F4 G3 H4 r3 σ vb vc S4 (hw F4 G3 H4 r3 db' (e3.trans e4) S4 n1) (S4.viewR k4 n2)
    exact ⟨_, (show OpR X (compareOp op') (fun u w H Q' => rr2 u w H _ ∧ ∀ v H', _ → Q' v H') from fun pins s σ H x y v u Q' I rx ry ⟨q, m⟩ => wpAny_mono (h5 pins s σ H x y v u _ I rx ry q) (fun _ _ ⟨v, H', I', rl, q⟩ => ⟨v, H', I', rl, m v H' q⟩) fun _ _ x => x), h6, fun v H' ⟨z, F', l1, l2, l3, l4⟩ => ⟨z, r3, G3, F', (((((e1.trans e1').trans e2).trans e2').trans e3).trans e4).trans l1, l2, l3, l4⟩⟩
theorem we_chain {op op' : CmpOp} {Q : Res → Env2 → GD → Prop}
    (h : WE X a r G fun x r1 G1 => WE X b r1 G1 fun y r2 G2 => ∃ da db, VwR r2 G2 x da ∧ VwR r2 G2 y db ∧ OpW X (compareOp op) da db fun z => ∃ k, z = .sh (.bl k) ∧ (k = true → WE X c r2 G2 fun w r3 G3 => ∃ db' dc, VwR r3 G3 y db' ∧ VwR r3 G3 w dc ∧ OpW X (compareOp op') db' dc fun u => Q u r3 G3) ∧ (k = false → Q (.sh (.bl false)) r2 G2))
    (hm : lastMarks [op, op'] [b, c] = false := by with_unfolding_all rfl) : WE X (.Compare a [op, op'] [b, c] pos) r G Q := fun F0 T F H σ lk S => Run.of (pe_chain (opU_ok _) (opU_ok _) peR peR peR hm) (chain lk S h)
/-- lo <= x <= hi on ints -/
theorem we_chainI {op op' : CmpOp} {p q : Int → Int → Bool} {Q : Res → Env2 → GD → Prop} (ho : ∀ (i j : Int) (R : Res → Prop), R (.sh (.bl (p i j))) → OpW X (compareOp op) (.int i) (.int j) R) (ho' : ∀ (i j : Int) (R : Res → Prop), R (.sh (.bl (q i j))) → OpW X (compareOp op') (.int i) (.int j) R)
    (h : WE X a r G fun x r1 G1 => WE X b r1 G1 fun y r2 G2 => ∃ i j k, vw r2 x = some (.int i) ∧ vw r2 y = some (.int j) ∧ (p i j = true → WE X c r2 G2 fun w r3 G3 => r3 = r2 ∧ G3 = G2 ∧ vw r3 w = some (.int k)) ∧ Q (.sh (.bl (p i j && q j k))) r2 G2)
    (hm : lastMarks [op, op'] [b, c] = false := by with_unfolding_all rfl) : WE X (.Compare a [op, op'] [b, c] pos) r G Q :=
  we_chain (h.mono fun x r1 G1 h1 => h1.mono fun y r2 G2 ⟨i, j, k, q1, q2, q3, q4⟩ => ⟨_, _, .inl q1, .inl q2, ho i j _ ⟨p i j, rfl, fun hp => (q3 hp).mono fun w r3 G3 ⟨m1, m2, m3⟩ => ⟨_, _, .inl (by rw [m1]; exact q2), .inl m3, ho' j k _ (by subst m1 m2; rw [hp, Bool.true_and] at q4; exact q4)⟩, fun hp => by rw [hp, Bool.false_and] at q4; exact q4⟩⟩) hm
theorem ww_andB {Q : Bool → Env2 → GD → Prop} (h : WT X a r G fun c1 r1 G1 => ∃ c2, (c1 = true → WW X (.BoolOp .And (b :: es) pos) r1 G1 fun d r2 G2 => d = c2 ∧ r2 = r1 ∧ G2 = G1) ∧ Q (c1 && c2) r1 G1) : WW X (.BoolOp .And (a :: b :: es) pos) r G Q :=
  ww_and (h.mono fun c1 r1 G1 ⟨c2, h1, h2⟩ => ⟨fun hc => fun F0 T F H σ lk S w pins s I => wpAny_mono (h1 hc F0 T F H σ lk S w pins s I) (fun _ _ ⟨H', I', r', G', F', k1, k2, k3, k4, k5⟩ => ⟨H', I', r', G', F', k1, k2, by subst k3 k4 k5; rw [hc, Bool.true_and] at h2; exact h2⟩) fun _ _ x => x, fun hc => by rw [hc, Bool.false_and] at h2; exact h2⟩)
theorem ww_orB {Q : Bool → Env2 → GD → Prop} (h : WT X a r G fun c1 r1 G1 => ∃ c2, (c1 = false → WW X (.BoolOp .Or (b :: es) pos) r1 G1 fun d r2 G2 => d = c2 ∧ r2 = r1 ∧ G2 = G1) ∧ Q (c1 || c2) r1 G1) : WW X (.BoolOp .Or (a :: b :: es) pos) r G Q :=
  ww_or (h.mono fun c1 r1 G1 ⟨c2, h1, h2⟩ => ⟨fun hc => fun F0 T F H σ lk S w pins s I => wpAny_mono (h1 hc F0 T F H σ lk S w pins s I) (fun _ _ ⟨H', I', r', G', F', k1, k2, k3, k4, k5⟩ => ⟨H', I', r', G', F', k1, k2, by subst k3 k4 k5; rw [hc, Bool.false_or] at h2; exact h2⟩) fun _ _ x => x, fun hc => by rw [hc, Bool.true_or] at h2; exact h2⟩)
structure Cal (P : Program) (w : World) (K : PySem.W.Frag) (mg : Str → Option Value) (base : Heap) (x : Str) (k : Nat) (ps : List Str) (sp : FSp) : Prop where
  ex : ∃ (f : Addr) (fd : FuncData), FnOk P w K mg base (CX P w) k f fd ps (spD K sp) ∧ mg x = some (.ref f) ∧ PySem.W.keepIn K (.ref f) = true ∧ Binds K fd ps []
theorem we_cal {x : Str} {k j : Nat} {ps : List Str} {sp : FSp} {Q : Res → Env2 → GD → Prop} (tk : X.Tk) (C : Cal X.prog X.w X.K X.mg X.base x k ps sp) (hr : Room j X.A) (hg : Gl X x) (h : WA X (e :: es) r G fun ds r1 G1 => sp ds G1 (fun z G2 => Q z r1 G2) (fun x G2 => X.QX x r1 G2)) (hj : k ≤ j := by omega)
    (hdb : (x == ("__debug__" : Str)) = false := by decide) (he : starEach (e :: es) X.env = (false, eval e X.env) :: starEach es X.env := by rfl) (hpl : (backTo pos (starEach es X.env)).any (·.1) = false := by rfl) : WE X (.Call (.Name x p0) (e :: es) [] pos) r G Q := by
  obtain ⟨f, fd, h1, h2, h3, h4⟩ := C.ex
  exact we_call tk h1 (hr.mono hj) hg h2 h3 h4 h hdb he hpl
structure PropD (P : Program) (w : World) (K : PySem.W.Frag) (mg : Str → Option Value) (base : Heap) (C : Addr) (f : Str) (k : Nat) (sp : FSp) : Prop where
  ex : ∃ (p g : Addr) (fd : FuncData), PySem.W.findIn K (.ref C) f = some (some (.ref p)) ∧ PySem.W.specialIn K (.ref p) "__get__" = some (some (.builtin "property.__get__")) ∧ PySem.W.takesIn K (.ref p) = some true ∧ (∃ rest, PySem.W.recIn K p "property" = some (.ref g :: rest)) ∧
    FnOk P w K mg base (CX P w) k g fd ["self"] (spD K sp) ∧ Binds K fd ["self"] []
theorem fnr {P : Program} {w : World} {K : PySem.W.Frag} {mg : Str → Option Value} {base : Heap} {CX : CXT} {k : Nat} {f : Addr} {fd : FuncData} {ps : List Str} {sp : Sp} (F : FnOk P w K mg base CX k f fd ps sp) (hb : Binds K fd ps []) : FnR P w K mg base CX k f sp :=
  (F.raw hb .nil).imp fun vs H Q E h => by rw [List.append_nil]; exact h
/-- a promise met from a state, no exception leaves -/
theorem spD_of0 {F0 T F F1 H : Hp} {σ : L2.St} {sp : FSp} {ds : List D} {vs : List V} {Q : Res → Env2 → GD → Prop} (S : Sta X.K F0 T F1 G H r σ) (e1 : Ex F F1) (ha : RepL X.K F1 ds vs) (h : sp ds G (fun z G2 => Q z r G2) (fun _ _ => False)) : spD X.K sp vs H (PostE X.K F0 T F σ Q) (fun _ _ _ => False) :=
  ⟨F1, G, ds, _, _, S.bas.fh, S.bas.gh, S.bas.fg, ha, h, fun x G' v H' F' hp B rt => ⟨x, r, G', F', e1.trans B.ff, S.after B, ResOk.after S B rt, hp⟩, fun x cls d G' H' F' hp B ex => hp⟩
theorem we_prop {f : Str} {C : Addr} {k j : Nat} {sp : FSp} {Q : Res → Env2 → GD → Prop} (c : SlX.SCls X.K C) (p : PropD X.prog X.w X.K X.mg X.base C f k sp) (hr : Room j X.A) (h : WE X e r G fun x r1 G1 => ∃ ds, vw r1 x = some (.ins C ds) ∧ sp [.ins C ds] G1 (fun z G2 => Q z r1 G2) (fun _ _ => False)) (hj : k + 1 ≤ j := by omega)
    (hb : attributeBase e f X.env (eval e X.env) = eval e X.env := by rfl) : WE X (.Attribute e f pos) r G Q := fun F0 T F H σ lk S => by
  obtain ⟨pa, g, fd, h1, h2, h3, h4, h5, h6⟩ := p.ex
  refine Run.of (SlX.pe_propSl (E := fun _ _ _ => False) peR c h1 h2 h3 h4 (fnr h5 h6) (hr.mono hj) (fun _ _ _ _ ⟨_, _, _, _, _, _, _, _, _, _, _, _, z⟩ => z) hb) ((h F0 T F H σ lk S).mono fun v H1 ⟨x, r1, G1, F1, e1, S1, k1, ds, q1, q2⟩ => ?_)
  obtain ⟨F1', e1', S1', hv⟩ := hold S1 k1
  have vv := hv F1' G1 H1 r1 _ (Ex.refl _) S1' (.inl q1)
  have rp : Rep X.K F1' (.ins C ds) v := by
    rcases vv with z | ⟨_, _, z⟩
    · exact z
    · exact z.elim
  obtain ⟨a, dx, vs, rfl, z1, z2⟩ := vv.ins S1'.bas.fh
  exact ⟨a, dx, vs.map some, rfl, z1, spD_of0 S1' (e1.trans e1') (.one rp) q2⟩
/-- a slot is read -/
theorem we_fld {f : Str} {C p : Addr} (i : Nat) {Q : Res → Env2 → GD → Prop} (c : SlX.SCls X.K C) (t : SlX.Slot1 X.K C f p i) (h : WE X e r G fun x r1 G1 => ∃ ds d, vw r1 x = some (.ins C ds) ∧ ds[i]? = some d ∧ Q (.sh d) r1 G1)
    (hb : attributeBase e f X.env (eval e X.env) = eval e X.env := by rfl) : WE X (.Attribute e f pos) r G Q := fun F0 T F H σ lk S => by
  refine Run.of (SlX.pe_sl peR hb) ((h F0 T F H σ lk S).mono fun v H1 ⟨x, r1, G1, F1, e1, S1, k1, ds, d, q1, q2, q3⟩ => ?_)
  obtain ⟨a, dx, vs, rfl, z1, z2⟩ := (S1.view k1 q1).ins S1.bas.fh
  obtain ⟨w, y1, y2⟩ := z2.get q2
  exact ⟨a, C, dx, p, vs.map some, i, w, rfl, z1, c, t, by rw [List.getElem?_map, y1]; rfl, .sh d, r1, G1, F1, e1, S1, y2, q3⟩
structure MethD (P : Program) (w : World) (K : PySem.W.Frag) (mg : Str → Option Value) (base : Heap) (C : Addr) (m : Str) (k : Nat) (ps : List Str) (sp : FSp) : Prop where
  ex : ∃ (g : Addr) (fd : FuncData), Meth K C m g ∧ FnOk P w K mg base (CX P w) k g fd ps (spD K sp) ∧ Binds K fd ps []
/-- as HandS.Slots' own, the wish by the slots -/
theorem run_fnRS {X : Cx} {CX : CXT} {k : Nat} {f : Addr} {sp : Sp} {E : L2.St → XK} {pins : List (Addr × Obj)} {σ : L2.St} {H : Hp} {s : Shared} {Q : VK} {us : List Value} {vs : List V} (F : FnR X.prog X.w X.K X.mg X.base CX k f sp) (hr : Room k X.A) (hx : PassesAt CX X σ (E σ)) (I : Inv X pins σ H s) (r : Vals vs us) (q : sp vs H Q (E σ)) :
    wpAny (model X.prog X.w) X.A (call (.ref f) us) (EP X pins σ Q) X.xe s := by
  refine wpAny_call (codeAny_mono (F X.A X.stack s H us vs Q (E σ) hr I.env0 r q) fun r s' hq => ?_)
  cases r with
  | error e => exact hx pins H s e s' I hq
  | ok fl =>
    cases fl with
    | ret u => exact I.after hq
    | next => exact False.elim hq
    | brk => exact False.elim hq
    | cont => exact False.elim hq
def tMethSlS (C : Addr) (sp : Sp) (E : L2.St → XK) (ta : TE) (t : TA) : TE := fun σ H Q => ta σ H fun x H1 => ∃ a dx vs, x = .ref a ∧ SlX.Slt H1 a C dx vs ∧ t σ H1 fun ws H2 => sp (x :: ws) H2 Q (E σ)
theorem pe_methSl0S {X : Cx} {m : Str} {ta : TE} {CX : CXT} {k : Nat} {C g : Addr} {sp : Sp} {E : L2.St → XK} {pl : Sem Bool} (he : PE X o ta) (c : SlX.SCls X.K C) (hm : Meth X.K C m g) (F : FnR X.prog X.w X.K X.mg X.base CX k g sp) (hr : Room k X.A) (hx : ∀ σ, PassesAt CX X σ (E σ))
    (ht : eval (.Call (.Attribute o m apos) [] [] pos) X.env = (do
      let ov ← eval o X.env
      standAt apos.atName
      let (f, first) ← holding [ov] (getMethod ov m pl)
      callWith pos f first (backTo pos (starEach [] X.env)) (backToKw pos (keywordEach [] X.env))) := by rfl) :
    PE X (.Call (.Attribute o m apos) [] [] pos) (tMethSlS C sp E ta tNil) := by
  refine ⟨fun pins s σ H Q I h => ?_⟩
  refine PySem.W.methodCall_KW (pl := pl) (thn (he.run pins s σ H _ I h) fun u s1 ⟨x, H1, I1, rx, a, dx, vs, ex, hsl, q⟩ => ?_) ht
  subst ex
  obtain rfl : u = Value.ref a := rx
  refine SlX.getmethsl_ok I1 hsl c hm ?_
  exact PySem.W.callWith_K0 (first := [.ref a]) I1.kIn hm.kp (run_fnRS (us := [.ref a]) (vs := [.ref a]) F hr (hx σ) I1 (.cons rfl .nil) q)
theorem we_meth0 {m : Str} {C : Addr} {k j : Nat} {ps : List Str} {sp : FSp} {pl : Sem Bool} {Q : Res → Env2 → GD → Prop} (tk : X.Tk) (c : SlX.SCls X.K C) (p : MethD X.prog X.w X.K X.mg X.base C m k ps sp) (hr : Room j X.A) (h : WE X o r G fun x r1 G1 => ∃ ds, vw r1 x = some (.ins C ds) ∧ sp [.ins C ds] G1 (fun z G2 => Q z r1 G2) (fun x G2 => X.QX x r1 G2)) (hj : k ≤ j := by omega)
    (ht : eval (.Call (.Attribute o m apos) [] [] pos) X.env = (do
      let ov ← eval o X.env
      standAt apos.atName
      let (f, first) ← holding [ov] (getMethod ov m pl)
      callWith pos f first (backTo pos (starEach [] X.env)) (backToKw pos (keywordEach [] X.env))) := by rfl) : WE X (.Call (.Attribute o m apos) [] [] pos) r G Q := fun F0 T F H σ lk S => by
  obtain ⟨g, fd, h1, h2, h3⟩ := p.ex
  refine Run.of (pe_methSl0S (pl := pl) peR c h1 (fnr h2 h3) (hr.mono hj) (fun σ => passAt tk σ) ht) ((h F0 T F H σ lk S).mono fun v H1 ⟨x, r1, G1, F1, e1, S1, k1, ds, q1, q2⟩ => ?_)
  obtain ⟨F1', e1', S1', hv⟩ := hold S1 k1
  have vv := hv F1' G1 H1 r1 _ (Ex.refl _) S1' (.inl q1)
  have rp : Rep X.K F1' (.ins C ds) v := by
    rcases vv with z | ⟨_, _, z⟩
    · exact z
    · exact z.elim
  obtain ⟨a, dx, vs, rfl, z1, z2⟩ := vv.ins S1'.bas.fh
  exact ⟨a, dx, vs.map some, rfl, z1, spD_of lk S1' (e1.trans e1') (.one rp) q2⟩
/-- the class of data, as far as isinstance asks -/
def tyD : D → Option Value
  | .non => some (.type "NoneType")
  | .bl _ => some (.type "bool")
  | .int _ => some (.type "int")
  | .str _ => some (.type "str")
  | .tup _ => some (.type "tuple")
  | .lst _ => some (.type "list")
  | .dic _ _ => some (.type "dict")
  | _ => none
theorem tyX_of {K : PySem.W.Frag} {F H : Hp} {d : D} {v : V} {t : Value} (ex : Ex F H) (h : Vw K F H d v) (e : tyD d = some t) : TyX K H v t := by
  cases d with
  | non => cases e; cases h.non; exact .base .non
  | bl b => cases e; cases h.bl; exact .base (.bl b)
  | int b => cases e; cases h.int; exact .base (.int b)
  | str b => cases e; cases h.str; exact .base (.str b)
  | tup ds =>
    cases e
    obtain ⟨a, vs, rfl, z1, _⟩ := h.tup ex
    rcases z1 with (z | ⟨ob, z⟩) | ⟨ob, its, n, z, zc, _⟩
    · exact .base (.tup z)
    · exact .fTuple z
    · exact .kTuple z zc
  | lst ds =>
    cases e
    obtain ⟨a, vs, rfl, z1, _⟩ := h.lst ex
    rcases z1 with z | ⟨ob, z⟩
    · exact .base (.lst z)
    · exact .base (.frz z)
  | dic ks ds =>
    cases e
    obtain ⟨a, vs, rfl, z1, _⟩ := h.dic ex
    rcases z1 with z | ⟨ob, z⟩
    · exact .base (.dK z)
    · exact .fDict z
  | ins C ds => cases e
  | adr a => cases e
  | obj _ _ _ => cases e
  | slo _ _ _ _ => cases e
  | xdo _ _ => cases e
  | scr _ => cases e
  | tab _ => cases e
  | hob _ _ => cases e
  | kd _ _ _ => cases e
/-- isinstance(x, T), T a built-in class -/
theorem we_isi {x y : Str} {n : String} {py : Pos} {Q : Res → Env2 → GD → Prop} (hg : Gl X x) (hm : X.mg x = none) (hv : bootBuiltins x = some (.builtin "isinstance")) (hg2 : Gl X y) (hm2 : X.mg y = none) (hv2 : bootBuiltins y = some (.type n))
    (h : WE X a r G fun z r1 G1 => ∃ d t c, VwR r1 G1 z d ∧ tyD d = some t ∧ PySem.W.kitOne X.K t (.type n) = some c ∧ Q (.sh (.bl c)) r1 G1)
    (hn : x ≠ "__name__" := by decide) (hdb : (x == ("__debug__" : Str)) = false := by decide) (hn2 : y ≠ "__name__" := by decide) (hdb2 : (y == ("__debug__" : Str)) = false := by decide)
    (he : starEach [a, .Name y py] X.env = (false, eval a X.env) :: starEach [.Name y py] X.env := by rfl) (he2 : starEach [.Name y py] X.env = (false, eval (.Name y py) X.env) :: starEach [] X.env := by rfl) (hpl : (backTo pos (starEach [.Name y py] X.env)).any (·.1) = false := by rfl) :
    WE X (.Call (.Name x p0) [a, .Name y py] [] pos) r G Q := fun F0 T F H σ lk S =>
  Run.of (pe_callB call_isi hg hm hv (pa_cons peR (pa_cons (pe_bltn (v := .ty n) hg2 hm2 hv2 rfl hn2 hdb2) pa_nil he2) he) hn hdb he hpl) ((h F0 T F H σ lk S).mono fun v H1 ⟨z, r1, G1, F1, e1, S1, k1, d, t, c, q1, q2, q3, q4⟩ =>
    ⟨v, .ty n, t, .type n, c, rfl, .ty n, tyX_of S1.bas.fh (S1.viewR k1 q1) q2, q3, .sh (.bl c), r1, G1, F1, e1, S1, rfl, q4⟩)
abbrev FSpI := List D → GD → (List D → GD → Prop) → (Exn → GD → Prop) → Prop
def spI (K : PySem.W.Frag) (C : Addr) (f : FSpI) : Sp := fun vs H Q E => ∃ (x dx : Addr) (us : List V) (F : Hp) (G : GD) (ds : List D) (post : List D → GD → Prop) (px : Exn → GD → Prop), vs = .ref x :: us ∧ H x = some (.ins C dx []) ∧ H dx = some (.own x) ∧ dx ≠ x ∧ F x = none ∧ F dx = none ∧ G x = none ∧ G dx = none ∧
  Ex F H ∧ (∀ a d, G a = some d → Own K F H a d) ∧ (∀ a o, G a = some o → F a = none) ∧ RepL K F ds us ∧ f ds G post px ∧
  (∀ ys G' H' F', post ys G' → Bas K F (fun a => if a = x ∨ a = dx then none else Tof G H a) F' G' H' → Rep K F' (.ins C ys) (.ref x) → Q .non H') ∧
  ∀ xn cls d G' H' F', px xn G' → Bas K F (fun a => if a = x ∨ a = dx then none else Tof G H a) F' G' H' → ExOk K F' cls d xn → E cls d H'
structure MakeD (P : Program) (w : World) (K : PySem.W.Frag) (mg : Str → Option Value) (base : Heap) (x : Str) (C : Addr) (k : Nat) (ps : List Str) (f : FSpI) : Prop where
  ex : ∃ (g : Addr) (fd : FuncData), Mk K C g ∧ mg x = some (.ref C) ∧ FnOk P w K mg base (CX P w) k g fd ps (spI K C f) ∧ Binds K fd ps []
def tMakeS (C : Addr) (sp : Sp) (E : L2.St → XK) (t : TA) : TE := fun σ H Q => t σ H fun vs H1 => ∀ x dx, H1 x = none → H1 dx = none → dx ≠ x →
  sp (.ref x :: vs) (upd (upd H1 dx (.own x)) x (.ins C dx [])) (fun v H2 => v = .non ∧ Q (.ref x) H2) (E σ)
theorem run_makeS {X : Cx} {CX : CXT} {k : Nat} {f C : Addr} {fd : FuncData} {ps : List Str} {sp : Sp} {E : L2.St → XK} {pins : List (Addr × Obj)} {σ : L2.St} {H : Hp} {s : Shared} {Q : VK} {us : List Value} {vs : List V} (M : Mk X.K C f) (F : FnOk X.prog X.w X.K X.mg X.base CX k f fd ps sp) (hr : Room (k + 1) X.A) (hb : Binds X.K fd ps [])
    (hx : PassesAt CX X σ (E σ)) (I : Inv X pins σ H s) (r : Vals vs us)
    (h : ∀ x dx, H x = none → H dx = none → dx ≠ x → sp (.ref x :: vs) (upd (upd H dx (.own x)) x (.ins C dx [])) (fun v H2 => v = .non ∧ Q (.ref x) H2) (E σ)) :
    wpAny (model X.prog X.w) X.A (call (.ref C) us) (EP X pins σ Q) X.xe s := by
  have hq := h (s.heap.objs.size + 1) s.heap.objs.size (I.hok.fresh (Nat.le_succ _)) (I.hok.fresh (Nat.le_refl _)) (Nat.ne_of_lt (Nat.lt_succ_self _))
  have I2 := Inv.made (C := C) I
  have r2 : Vals (V.ref (s.heap.objs.size + 1) :: vs) (Value.ref (s.heap.objs.size + 1) :: us) := .cons rfl r
  have hl : (Value.ref (s.heap.objs.size + 1) :: us ++ []).length = ps.length := by
    rw [List.append_nil]
    have e := r2.length
    rw [F.len _ _ _ _ hq] at e
    exact e.symm
  have hbb := hb _ (Value.ref (s.heap.objs.size + 1) :: us) I2.kIn hl
  rw [List.append_nil] at hbb
  refine wpAny_call (make_map (f := f) I.kIn M.makes M.init (beq_iff_eq.mp M.fn) (codeAny_mono (F.run _ X.stack _ _ ⟨Value.ref (s.heap.objs.size + 1) :: us, []⟩ (Value.ref (s.heap.objs.size + 1) :: us) _ _ (E σ) (hr.make C us [])
    (I2.env0.make C us []) hbb r2 hq) fun r s' hq' => ?_))
  cases r with
  | error e => exact hx pins _ _ e s' I2 hq'
  | ok fl =>
    cases fl with
    | ret u =>
      obtain ⟨v, H', I3, rv, ev, q3⟩ := I2.after hq'
      subst ev
      exact ⟨rv, ⟨V.ref (s.heap.objs.size + 1), H', I3, rfl, q3⟩⟩
    | next => exact False.elim hq'
    | brk => exact False.elim hq'
    | cont => exact False.elim hq'
theorem pe_makeS {X : Cx} {CX : CXT} {k : Nat} {f C : Addr} {fd : FuncData} {ps : List Str} {sp : Sp} {E : L2.St → XK} {x : Str} {p : Pos} {t : TA} (M : Mk X.K C f) (F : FnOk X.prog X.w X.K X.mg X.base CX k f fd ps sp) (hr : Room (k + 1) X.A) (hg : Gl X x) (hm : X.mg x = some (.ref C)) (hb : Binds X.K fd ps []) (hx : ∀ σ, PassesAt CX X σ (E σ))
    (ha : PA X (e :: es) t) (hdb : (x == ("__debug__" : Str)) = false := by decide) (he : starEach (e :: es) X.env = (false, eval e X.env) :: starEach es X.env := by rfl) (hpl : (backTo pos (starEach es X.env)).any (·.1) = false := by rfl) :
    PE X (.Call (.Name x p) (e :: es) [] pos) (tMakeS C sp E t) := by
  refine ⟨fun pins s σ H Q I h => ?_⟩
  refine wpAny_Call_Name_kw (ld_glob I hg hm ?_ hdb)
  refine PySem.W.callWith_K (h₀ := X.base) I.ok.mod.kin M.kp (thn (ha.run pos pins s σ H _ I h) fun us s1 ⟨vs, H1, I1, r, q⟩ => ⟨I1.kIn, ?_⟩) he hpl
  exact run_makeS M F hr hb (hx σ) I1 r q
theorem make_base {K : PySem.W.Frag} {F1 F' H1 H' : Hp} {G1 G' : GD} {ad dx C : Addr} (ha : H1 ad = none) (hd : H1 dx = none) (ex1 : Ex H1 (upd (upd H1 dx (.own ad)) ad (.ins C dx [])))
    (B : Bas K F1 (fun a => if a = ad ∨ a = dx then none else Tof G1 (upd (upd H1 dx (.own ad)) ad (.ins C dx [])) a) F' G' H') : Bas K F1 (Tof G1 H1) F' G' H' := by
  have sub : ∀ q u, Tof G1 H1 q = some u → (if q = ad ∨ q = dx then none else Tof G1 (upd (upd H1 dx (.own ad)) ad (.ins C dx [])) q) = some u := fun q u hq => by
    have hG : G1 q = none := by
      cases eg : G1 q with
      | none => rfl
      | some o => rw [Tof_some eg] at hq; cases hq
    rw [Tof_none hG] at hq
    have n1 : q ≠ ad := ne_of_none hq ha
    have n2 : q ≠ dx := ne_of_none hq hd
    rw [if_neg (by simp [n1, n2]), Tof_none hG]
    exact ex1 q u hq
  have down : ∀ q, (if q = ad ∨ q = dx then none else Tof G1 (upd (upd H1 dx (.own ad)) ad (.ins C dx [])) q) = none → Tof G1 H1 q = none := fun q z => by
    cases et : Tof G1 H1 q with
    | none => rfl
    | some w => rw [sub q w et] at z; cases z
  exact ⟨B.ff, fun q u hq => (B.ft q u hq).imp id (down q), B.fh, B.gh, B.fg, fun q u hq => down q (B.gt q u hq), fun q u hq => B.tk q u (sub q u hq)⟩
theorem we_make {x : Str} {C : Addr} {k j : Nat} {ps : List Str} {f : FSpI} {Q : Res → Env2 → GD → Prop} (tk : X.Tk) (M : MakeD X.prog X.w X.K X.mg X.base x C k ps f) (hr : Room j X.A) (hg : Gl X x) (h : WA X (e :: es) r G fun ds r1 G1 => f ds G1 (fun ys G2 => Q (.sh (.ins C ys)) r1 G2) (fun xn G2 => X.QX xn r1 G2)) (hj : k + 1 ≤ j := by omega)
    (hdb : (x == ("__debug__" : Str)) = false := by decide) (he : starEach (e :: es) X.env = (false, eval e X.env) :: starEach es X.env := by rfl) (hpl : (backTo pos (starEach es X.env)).any (·.1) = false := by rfl) : WE X (.Call (.Name x p0) (e :: es) [] pos) r G Q := fun F0 T F H σ lk S => by
  obtain ⟨g, fd, h1, h2, h3, h4⟩ := M.ex
  refine Run.of (pe_makeS h1 h3 (hr.mono hj) hg h2 h4 (fun σ => passAt tk σ) paR hdb he hpl) ((h F0 T F H σ lk S).mono fun vs H1 ⟨ds, r1, G1, F1, e1, S1, k1, q1⟩ => ?_)
  intro ad dx ha hd hne
  obtain ⟨f1, f2, f3⟩ := S1.bas.freshF ha
  obtain ⟨g1, g2, g3⟩ := S1.bas.freshF hd
  have ex1 : Ex H1 (upd (upd H1 dx (.own ad)) ad (.ins C dx [])) := fun q u hq => by
    rw [upd_ne (ne_of_none hq ha), upd_ne (ne_of_none hq hd)]; exact hq
  refine ⟨ad, dx, vs, F1, G1, ds, _, _, rfl, upd_same, by rw [upd_ne hne, upd_same], hne, f1, g1, f2, g2, S1.bas.fh.trans ex1, S1.bas.gmono (Ex.refl _) fun a o _ h => ex1 a o h, S1.bas.fg, k1, q1, fun ys G' H' F' hp B rp => ⟨rfl, ?_⟩, fun xn cls d G' H' F' hp B ex => ?_⟩
  · have B' := make_base ha hd ex1 B
    exact ⟨.sh (.ins C ys), r1, G', F', e1.trans B'.ff, S1.after B', rp, hp⟩
  · have B' := make_base ha hd ex1 B
    exact ⟨r1, G', F', xn, lk.sta (S1.after B'), ex, hp⟩
/-- a block, then statements by hand -/
theorem execs_app (env : Env) (post : List Stmt) : ∀ pre : List Stmt, execs (pre ++ post) env = execs pre env >>= fun f => match f with
    | .next => execs post env
    | f => pure f
  | [] => by
    rw [List.nil_append, execs, pure_bind]
  | st :: pre => by
    rw [List.cons_append, execs, execs, bind_assoc]
    congr 1
    funext f
    cases f with
    | next => exact execs_app env post pre
    | brk => rw [pure_bind]
    | cont => rw [pure_bind]
    | ret v => rw [pure_bind]
theorem runB_then {pre post : List Stmt} {E : Ends} {σ : L2.St} {H : Hp} (h : RunB X pre { E with nx := fun σ' H' => RunB X post E σ' H' } σ H) : RunB X (pre ++ post) E σ H := fun pins s I => by
  rw [execs_app]
  refine wpAny_bind (wpAny_mono (h pins s I) (fun f s' q => ?_) fun _ _ x => x)
  cases f with
  | next => obtain ⟨σ', H', I', q⟩ := q; exact q pins s' I'
  | brk => exact wpAny_pure q
  | cont => exact wpAny_pure q
  | ret v => exact wpAny_pure q
end
theorem bt_len : bootBuiltins "len" = some (.builtin "len") := by decide +kernel
theorem bt_int : bootBuiltins "int" = some (.type "int") := by decide +kernel
theorem bt_list : bootBuiltins "list" = some (.type "list") := by decide +kernel
theorem bt_tuple : bootBuiltins "tuple" = some (.type "tuple") := by decide +kernel
theorem bt_bool : bootBuiltins "bool" = some (.type "bool") := by decide +kernel
theorem bt_sorted : bootBuiltins "sorted" = some (.builtin "sorted") := by decide +kernel
theorem bt_isinstance : bootBuiltins "isinstance" = some (.builtin "isinstance") := by decide +kernel
theorem bt_abs : bootBuiltins "abs" = some (.builtin "abs") := by decide +kernel
theorem bt_max : bootBuiltins "max" = some (.builtin "max") := by decide +kernel
section
variable {prog : Program} {w : World} {A : Around} {E : Value → Shared → Prop} {s : Shared}
abbrev tIt (t : Addr) : Obj := { cls := .type "tuple_iterator", data := .fields #[.ref t, .int 0 0] }
abbrev enO (i : Addr) : Obj := { cls := .type "enumerate", data := .fields #[.none, .bool false, .ref i, rawInt 0, .none, .none] }
theorem meets_enumT (t : Addr) (its : Array Value) (o : Obj) (n : Nat) (ho : o.cls = .type "tuple" ∧ o.data = .seq its n) :
    Meets (Builtin.«enumerate.__new__» ⟨[.type "enumerate", .ref t], []⟩) (fun _ R s => s.heap.get? t = some o ∧
      R (.ok (.ret (.ref (s.heap.push (tIt t)).objs.size))) { s with heap := (s.heap.push (tIt t)).push (enO s.heap.objs.size) }) :=
  .of_wp fun prog w A R s h => by
    obtain ⟨c, dc, dt, sl⟩ := o
    obtain ⟨h1, h2⟩ := ho
    cases h1
    obtain ⟨hp, g, d, tk, os⟩ := s; obtain ⟨hl, h⟩ := h
    have sub := sub_enumerate
    have tup : Heap.IsTuple (Shared.heap ⟨hp, g, d, tk, os⟩) t its := ⟨_, hl, rfl, _, h2⟩
    wp_walk using AutoSeq1.wpAny_loadPart' hl
    refine wpAny_stack_any fun st => wpAny_pure ?_
    split
    · rename_i c _ _ _ _ _
      cases (c == Value.type "enumerate")
      all_goals
        wp_walk using AutoSeq1.wpAny_loadPart' hl, wpAny_pyIter_tuple tup
        exact ⟨_, rfl, h⟩
    · wp_walk using AutoSeq1.wpAny_loadPart' hl, wpAny_pyIter_tuple tup
      exact ⟨_, rfl, h⟩
theorem callEnumT {t : Addr} {its : Array Value} {Q : Value → Shared → Prop} (ht : s.heap.IsTuple t its)
    (h : ∀ h', IsEnum h' (s.heap.objs.size + 1) s.heap.objs.size 0 .none → h'.IsTupleIter s.heap.objs.size t 0 → (∀ b o, s.heap.get? b = some o → h'.get? b = some o) → Q (.ref (s.heap.objs.size + 1)) { s with heap := h' }) :
    wpAny (model prog w) A (call (.type "enumerate") [.ref t]) Q E s := by
  obtain ⟨o, ho, hc, n, hd⟩ := ht
  refine callType_new F.called_enumerate (by decide) (F.typeCall_enumerate_1 _) (F.newCall_enumerate_1 _) (fun obj => F.args_object_init_2 obj _) F.entry_enumerate_new (meets_enumT t its o n ⟨hc, hd⟩) ⟨ho, ?_⟩
  have z : (s.heap.push (tIt t)).objs.size = s.heap.objs.size + 1 := Heap.size_push ..
  show _ ∧ _
  rw [z]
  have he : IsEnum ((s.heap.push (tIt t)).push (enO s.heap.objs.size)) (s.heap.objs.size + 1) s.heap.objs.size 0 .none := by
    have q := Heap.get?_push_size (s.heap.push (tIt t)) (o := enO s.heap.objs.size) rfl
    rw [z] at q
    exact q
  exact ⟨⟨_, he, rfl⟩, h _ he ⟨_, Heap.get?_push_of_some _ (Heap.get?_push_size _ rfl), rfl, rfl⟩ fun b o x => Heap.get?_push_of_some _ (Heap.get?_push_of_some _ x)⟩
end
/-- the tuple at a, each item in a new pair -/
def ItU (K : PySem.W.Frag) (a : Addr) : It :=
  ⟨fun i H => ∃ (xs : List V) (x : V), SqT K H a xs ∧ xs[i]? = some x, fun i H v H' => ∃ T x, v = .ref T ∧ H T = none ∧ H' = upd H T (.tup [.int (i : Nat), x]) ∧ ∀ xs, SqT K H a xs → xs[i]? = some x, fun i H => ∃ xs : List V, SqT K H a xs ∧ xs.length = i⟩
theorem turn_enumT {P : Program} {w : World} {K : PySem.W.Frag} {elts : List Expr} {kk : Nat} {tpos : Pos} (a e it : Addr) (hae : a ≠ e) (hai : a ≠ it) :
    Turn P w K (.Tuple elts kk tpos) (ItU K a) [e, it] e (fun i h => (∃ old, IsEnum h e it ((i : Nat) : Int) old) ∧ h.IsTupleIter it a i ∧ e ≠ it) where
  mem := by simp
  obj := fun i h st b hb => by
    obtain ⟨⟨old, he⟩, ⟨o, ho, hc, hd⟩, _⟩ := st
    rcases (by simpa using hb : b = e ∨ b = it) with z | z
    · rw [z]; exact ⟨_, he, fun v q => nomatch q⟩
    · rw [z]; exact ⟨o, ho, fun v q => by rw [hd] at q; cases q⟩
  keep := fun i h h' ⟨⟨old, he⟩, hi, hne⟩ k => ⟨⟨old, k e (by simp) _ he⟩, hi.at fun o q => k it (by simp) o q, hne⟩
  item := by
    intro X hP hw hK hc i pins s σ H E I hf st hg
    subst hP hw hK
    obtain ⟨⟨old, he⟩, hit, hne⟩ := st
    obtain ⟨xs, x, hq, hx⟩ := hg
    obtain ⟨its, rv, p, hz⟩ := I.tuple hq
    obtain ⟨u, hu, ru⟩ := rv.get hx
    have hel : e < s.heap.objs.size := Heap.lt_size he
    have hil : it < s.heap.objs.size := by obtain ⟨_, q, _⟩ := hit; exact Heap.lt_size q
    have dr := Draws.tuple (prog := X.prog) (w := X.w) (A := X.A.in1) (I.ok.hd hc) it a hai its.toArray
    have lt : i < its.toArray.size := by
      have := (List.getElem?_eq_some_iff.mp hu).1
      simpa using this
    refine wpAny_pyNext_enum_itemD dr he ⟨hit, p⟩ lt hne (by simp [hne, hae.symm]) fun x' h' tk hv ho hit' hT hsz hk => ?_
    have ex : x' = u := by
      have : its[i]? = some x' := by simpa using hv
      rw [hu] at this; cases this; rfl
    subst ex
    refine ⟨_, rfl, wpAny_letOwnedTupleGo_enum (s := { s with heap := h', toks := tk + 1 }) ho fun h'' he' sb => ?_⟩
    have hT2 : h''.get? s.heap.objs.size = some { cls := .type "tuple", data := .seq #[.int i tk, x'] } := (sb.2 _ (Nat.ne_of_gt hel)).trans hT
    have new : ObjOk X.prog X.w (upd H s.heap.objs.size (.tup [.int (i : Nat), x])) h'' s.heap.objs.size (.tup [.int (i : Nat), x]) :=
      ⟨by show 2 ≤ sizeLine; decide, [.int i tk, x'], .cons ⟨_, rfl⟩ (.cons ru .nil), ⟨_, hT2, rfl, _, rfl⟩⟩
    have I1 : Inv X pins σ (upd H s.heap.objs.size (.tup [.int (i : Nat), x])) { s with heap := h'', toks := tk + 1 } :=
      I.turnedNew (ch := [e, it]) (fun b ob hb q => (sb.2 b (fun z => hb (by simp [z]))).trans (hk b ob (fun z => hb (by simp [z])) (fun z => hb (by simp [z])) q)) hf (Nat.le_refl _) new
    refine ⟨.ref s.heap.objs.size, _, I1, rfl, ⟨_, x, rfl, I.hok.fresh (Nat.le_refl _), rfl, fun ys hy => by rw [I.tuple_inj hy hq]; exact hx⟩, ⟨⟨x', he'⟩, hit'.1.at fun o q => (sb.2 it (Ne.symm hne)).trans q, hne⟩, fun b hb => ?_⟩
    have hb' : b < s.heap.objs.size := by
      rcases (by simpa using hb : b = e ∨ b = it) with z | z
      · rw [z]; exact hel
      · rw [z]; exact hil
    rw [upd_ne (Nat.ne_of_lt hb')]
    exact (hf b hb).1
  done := by
    intro X hP hw hK hc i pins s σ H E I hf st hg
    subst hP hw hK
    obtain ⟨⟨old, he⟩, hit, hne⟩ := st
    obtain ⟨xs, hq, hx⟩ := hg
    obtain ⟨its, rv, p, hz⟩ := I.tuple hq
    obtain ⟨f0, f1, f2, f3, f4, f5⟩ := hf it (by simp)
    have hl : its.toArray.size = i := by
      have := rv.length
      simp
      omega
    subst hl
    exact wpAny_pyNext_enum_endD (Draws.tuple (prog := X.prog) (w := X.w) (A := X.A.in1) (I.ok.hd hc) it a hai its.toArray) he ⟨hit, p⟩ fun h' eb => ⟨rfl, I.turned (t' := s.toks) (fun b o hb q => eb b o hb q) f0 f1 f3 f4 f5⟩
  self := fun A i s Q E ⟨⟨_, he⟩, _⟩ h => wpAny_pyIter_enum he h
def iEnumT (K : PySem.W.Frag) (ta : TA) : TI := fun σ H R => ta σ H fun vs H1 => ∃ a xs, vs = [.ref a] ∧ SqT K H1 a xs ∧ R (ItU K a) H1
theorem pi_enumT {X : Cx} {e : Expr} {ta : TA} {p pos tpos : Pos} {elts : List Expr} {kk : Nat} (hg : Gl X "enumerate") (hm : X.mg "enumerate" = none) (ha : PA X [e] ta) (hs : starEach [e] X.env = [(false, eval e X.env)] := by rfl) :
    PI X (.Tuple elts kk tpos) (.Call (.Name "enumerate" p) [e] [] pos) (iEnumT X.K ta) := by
  refine ⟨fun pins s σ H R I h => ?_⟩
  refine Call_ (ld_blt I hg hm boot_enumerate (PyProof.Rows.callWith_type1 (thn (ha.run pos pins s σ H _ I h) fun us s1 ⟨vs, H1, I1, r1, q1⟩ => ?_) hs rfl))
  obtain ⟨a, xs, ex, hq, q⟩ := q1
  subst ex
  cases r1 with
  | cons rl rr =>
    cases rr
    cases rl
    obtain ⟨its, rv, p', hz⟩ := I1.tuple hq
    have ha : a < s1.heap.objs.size := by obtain ⟨_, z, _⟩ := p'; exact Heap.lt_size z
    refine callEnumT (show s1.heap.IsTuple a its.toArray from p') fun h' he hit hk => wpAny_pyIter_enum he ?_
    refine ⟨s1.heap.objs.size + 1, [s1.heap.objs.size + 1, s1.heap.objs.size], _, _, H1, rfl, I1.kept (t' := s1.toks) hk, turn_enumT a (s1.heap.objs.size + 1) s1.heap.objs.size (Nat.ne_of_lt (Nat.lt_succ_of_lt ha)) (Nat.ne_of_lt ha), ⟨⟨.none, he⟩, hit, Nat.succ_ne_self _⟩, fun b hb => ?_, q⟩
    have hle : s1.heap.objs.size ≤ b := by
      rcases (by simpa using hb : b = s1.heap.objs.size + 1 ∨ b = s1.heap.objs.size) with z | z
      · rw [z]; exact Nat.le_succ _
      · rw [z]; exact Nat.le_refl _
    exact I1.fpOk hle (I1.hok.fresh hle)
def enumD (k : Nat) : List D → List D
  | [] => []
  | d :: ds => .tup [.int (k : Nat), d] :: enumD (k + 1) ds
theorem enumD_len : ∀ (ds : List D) (k : Nat), (enumD k ds).length = ds.length
  | [], _ => rfl
  | d :: ds, k => by unfold enumD; rw [List.length_cons, List.length_cons, enumD_len ds]
theorem enumD_get : ∀ {ds : List D} {k i : Nat} {x : D}, (enumD k ds)[i]? = some x → ∃ d, ds[i]? = some d ∧ x = .tup [.int ((k + i : Nat) : Int), d]
  | [], k, i, x, h => by simp [enumD] at h
  | d :: ds, k, 0, x, h => by
    unfold enumD at h
    simp at h
    exact ⟨d, rfl, h.symm⟩
  | d :: ds, k, i + 1, x, h => by
    unfold enumD at h
    rw [List.getElem?_cons_succ] at h
    obtain ⟨d', h1, h2⟩ := enumD_get h
    exact ⟨d', by rw [List.getElem?_cons_succ]; exact h1, by rw [h2, show k + 1 + i = k + (i + 1) by omega]⟩
theorem rep_pair {K : PySem.W.Frag} {F : Hp} {p : Addr} {d1 d2 : D} {v1 v2 : V} (hp : F p = none) (h1 : Rep K F d1 v1) (h2 : Rep K F d2 v2) : Rep K (upd F p (.tup [v1, v2])) (.tup [d1, d2]) (.ref p) :=
  ⟨p, [v1, v2], rfl, .inl (.inl upd_same), v1, [v2], rfl, Rep.mono (Ex.new hp) _ _ h1, .one (Rep.mono (Ex.new hp) _ _ h2)⟩
theorem none_F {F H : Hp} (e : Ex F H) {p : Addr} (h : H p = none) : F p = none := none_of e h
section
variable {X : Cy} {e e2 a b c o tg : Expr} {es elts : List Expr} {kk : Nat} {st : Stmt} {sts rest body orelse : List Stmt} {r : Env2} {G : GD} {pos tpos apos cpos p0 : Pos} {D0 : EndsD}
theorem wi_enumL {Q : List D → Env2 → GD → Prop} (hg : Gl X "enumerate") (hm : X.mg "enumerate" = none) (h : WE X a r G fun x r1 G1 => ∃ ds r2, fz r1 x = some (.lst ds, r2) ∧ (ds.length ≤ LIM → Q (enumD 0 ds) r2 G1)) (hst : starEach [a] X.env = [(false, eval a X.env)] := by rfl) :
    WI X (.Tuple elts kk tpos) (.Call (.Name "enumerate" p0) [a] [] pos) r G Q := fun F0 T F H σ lk S =>
  RunI.of (pi_enum hg hm (pa_cons peR pa_nil hst) hst) ((h F0 T F H σ lk S).bl.mono fun v H1 ⟨bl, x, r1, G1, F1, e1, S1, k1, ds, r2, q1, q2⟩ => by
    obtain ⟨Fa, e2, Sa, rp⟩ := S1.fz k1 q1
    obtain ⟨ad, vs, rfl, z1, z2⟩ := rp
    have hlim : ds.length ≤ LIM := by rw [← z2.length]; exact bl.1 ad vs (.inl (Sa.bas.fh.rd z1))
    refine ⟨ad, vs, rfl, .inl (Sa.bas.fh.rd z1), enumD 0 ds, r2, G1, Fa, e1.trans e2, Sa, fun F H ea eh => ⟨⟨vs, .inl (eh.rd (ea.rd z1)), by rw [enumD_len, z2.length]; exact Nat.le_refl _⟩, fun i d hi => ?_⟩, q2 hlim⟩
    obtain ⟨d', hd, rfl⟩ := enumD_get hi
    obtain ⟨v, h1, h2⟩ := z2.get hd
    refine ⟨⟨vs, v, .inl (eh.rd (ea.rd z1)), h1⟩, fun x H' ⟨p, y, hx, hp, hH, hy⟩ => .inr ⟨p, _, hp, hH, hx, ?_⟩⟩
    have := hy vs (.inl (eh.rd (ea.rd z1)))
    rw [h1] at this; cases this
    rw [Nat.zero_add]
    exact rep_pair (none_F eh hp) rfl (Rep.mono ea _ _ h2))
theorem wi_enumT {Q : List D → Env2 → GD → Prop} (hg : Gl X "enumerate") (hm : X.mg "enumerate" = none) (h : WE X a r G fun x r1 G1 => ∃ ds r2, fz r1 x = some (.tup ds, r2) ∧ (ds.length ≤ LIM → Q (enumD 0 ds) r2 G1)) (hst : starEach [a] X.env = [(false, eval a X.env)] := by rfl) :
    WI X (.Tuple elts kk tpos) (.Call (.Name "enumerate" p0) [a] [] pos) r G Q := fun F0 T F H σ lk S =>
  RunI.of (pi_enumT hg hm (pa_cons peR pa_nil hst) hst) ((h F0 T F H σ lk S).bl.mono fun v H1 ⟨bl, x, r1, G1, F1, e1, S1, k1, ds, r2, q1, q2⟩ => by
    obtain ⟨Fa, e2, Sa, rp⟩ := S1.fz k1 q1
    obtain ⟨ad, vs, rfl, z1, z2⟩ := rp
    have hlim : ds.length ≤ LIM := by rw [← z2.length]; exact bl.2.1 ad vs (Sa.bas.fh.sqT z1)
    refine ⟨ad, vs, rfl, Sa.bas.fh.sqT z1, enumD 0 ds, r2, G1, Fa, e1.trans e2, Sa, fun F H ea eh => ⟨⟨vs, eh.sqT (ea.sqT z1), by rw [enumD_len, z2.length]⟩, fun i d hi => ?_⟩, q2 hlim⟩
    obtain ⟨d', hd, rfl⟩ := enumD_get hi
    obtain ⟨v, h1, h2⟩ := z2.get hd
    refine ⟨⟨vs, v, eh.sqT (ea.sqT z1), h1⟩, fun x H' ⟨p, y, hx, hp, hH, hy⟩ => .inr ⟨p, _, hp, hH, hx, ?_⟩⟩
    have := hy vs (eh.sqT (ea.sqT z1))
    rw [h1] at this; cases this
    rw [Nat.zero_add]
    exact rep_pair (none_F eh hp) rfl (Rep.mono ea _ _ h2))
theorem rev_get {α : Type} {xs : List α} {i : Nat} {x : α} (h : xs.reverse[i]? = some x) : i < xs.length ∧ xs[xs.length - 1 - i]? = some x := by
  have hi : i < xs.length := by
    have := (List.getElem?_eq_some_iff.mp h).1
    rw [List.length_reverse] at this; exact this
  rw [List.getElem?_reverse hi] at h
  exact ⟨hi, h⟩
theorem wi_revL {Q : List D → Env2 → GD → Prop} (hg : Gl X "reversed") (hm : X.mg "reversed" = none) (h : WE X a r G fun x r1 G1 => ∃ ds r2, fz r1 x = some (.lst ds, r2) ∧ (ds.length ≤ LIM → Q ds.reverse r2 G1)) (hst : starEach [a] X.env = (false, eval a X.env) :: starEach [] X.env := by rfl) :
    WI X tg (.Call (.Name "reversed" p0) [a] [] pos) r G Q := fun F0 T F H σ lk S =>
  RunI.of (RT.pi_revA hg hm peR hst) ((h F0 T F H σ lk S).bl.mono fun v H1 ⟨bl, x, r1, G1, F1, e1, S1, k1, ds, r2, q1, q2⟩ => by
    obtain ⟨Fa, e2, Sa, rp⟩ := S1.fz k1 q1
    obtain ⟨ad, vs, rfl, z1, z2⟩ := rp
    have hlim : ds.length ≤ LIM := by rw [← z2.length]; exact bl.1 ad vs (.inl (Sa.bas.fh.rd z1))
    refine ⟨ad, vs, rfl, .inl ⟨.inl (Sa.bas.fh.rd z1), ds.reverse, r2, G1, Fa, e1.trans e2, Sa, fun F H ea eh => ⟨by rw [List.length_reverse, z2.length]; exact Nat.le_refl _, fun i d hi => ?_⟩, q2 hlim⟩⟩
    obtain ⟨hlt, hd⟩ := rev_get hi
    rw [← z2.length] at hlt hd
    obtain ⟨v, h1, h2⟩ := z2.get hd
    refine ⟨⟨hlt, vs, v, .inl (eh.rd (ea.rd z1)), h1⟩, fun x H' ⟨hH, hy⟩ => .inl ⟨hH, ?_⟩⟩
    have := hy vs (.inl (eh.rd (ea.rd z1)))
    rw [h1] at this; cases this
    exact Rep.mono ea _ _ h2)
def kD : Key → D
  | .inl n => .int n
  | .inr s => .str s
theorem Vw.loc {K : PySem.W.Frag} {F0 T F : Hp} {G : GD} {H : Hp} {r r2 : Env2} {σ : L2.St} {x : Res} {v : V} {ks : List Key} {ds : List D} (S : Sta K F0 T F G H r σ) (h : ResOk K T F G H r σ x v) (e : fz r x = some (.dic ks ds, r2)) : r2 = r ∧ Rep K F (.dic ks ds) v := by
  cases x with
  | sh d => cases e; exact ⟨rfl, h⟩
  | fr d =>
    have e' : (if isDic d then none else some (d, r)) = some (.dic ks ds, r2) := e
    split at e'
    · cases e'
    · rename_i hd
      cases e'
      exact absurd rfl hd
  | pk i =>
    obtain ⟨h1, d', h2⟩ := h
    have e' : (match r[i]? with | some (.own d) => if isDic d then none else some (d, r.set i (.sh d)) | _ => none) = some (.dic ks ds, r2) := e
    rw [h2] at e'
    dsimp only at e'
    split at e'
    · cases e'
    · rename_i hd
      cases e'
      exact absurd rfl hd
end
theorem rep_kD {K : PySem.W.Frag} {F : Hp} {k : Key} {v : V} (h : Rep K F (kD k) v) : v = kV k := by
  cases k with
  | inl i => exact h
  | inr x => exact h
def putD (acc : List (Key × D)) (k : Key) (d : D) : List (Key × D) :=
  if (acc.any fun kv => decide (kv.1 = k)) = true then acc.map (fun kv => if kv.1 = k then (kv.1, d) else kv) else acc ++ [(k, d)]
def DRep (K : PySem.W.Frag) (F : Hp) : List (Key × D) → List (Key × V) → Prop
  | [], us => us = []
  | p :: acc, us => ∃ u us', us = u :: us' ∧ u.1 = p.1 ∧ Rep K F p.2 u.2 ∧ DRep K F acc us'
theorem DRep.mono {K : PySem.W.Frag} {F F' : Hp} (e : Ex F F') : ∀ {acc : List (Key × D)} {us : List (Key × V)}, DRep K F acc us → DRep K F' acc us
  | [], _, h => h
  | p :: acc, _, ⟨u, us', h1, h2, h3, h4⟩ => ⟨u, us', h1, h2, Rep.mono e _ _ h3, h4.mono e⟩
theorem DRep.length {K : PySem.W.Frag} {F : Hp} : ∀ {acc : List (Key × D)} {us : List (Key × V)}, DRep K F acc us → us.length = acc.length
  | [], _, h => by rw [show _ = [] from h]; rfl
  | p :: acc, _, ⟨u, us', h1, h2, h3, h4⟩ => by rw [h1, List.length_cons, List.length_cons, h4.length]
theorem DRep.keys {K : PySem.W.Frag} {F : Hp} : ∀ {acc : List (Key × D)} {us : List (Key × V)}, DRep K F acc us → us.map (·.1) = acc.map (·.1)
  | [], _, h => by rw [show _ = [] from h]; rfl
  | p :: acc, _, ⟨u, us', h1, h2, h3, h4⟩ => by rw [h1, List.map_cons, List.map_cons, h4.keys, h2]
theorem DRep.vals {K : PySem.W.Frag} {F : Hp} : ∀ {acc : List (Key × D)} {us : List (Key × V)}, DRep K F acc us → RepL K F (acc.map (·.2)) (us.map (·.2))
  | [], _, h => by rw [show _ = [] from h]; rfl
  | p :: acc, _, ⟨u, us', h1, h2, h3, h4⟩ => by subst h1; exact ⟨u.2, us'.map (·.2), rfl, h3, h4.vals⟩
theorem DRep.of {K : PySem.W.Frag} {F : Hp} : ∀ {ks : List Key} {ds : List D} {vs : List V}, ks.length = ds.length → RepL K F ds vs → DRep K F (ks.zip ds) (ks.zip vs)
  | [], _, _, _, _ => by rw [List.zip_nil_left, List.zip_nil_left]; rfl
  | k :: ks, [], _, h, _ => by simp at h
  | k :: ks, d :: ds, _, h, ⟨v, vs', h1, h2, h3⟩ => by subst h1; exact ⟨(k, v), ks.zip vs', rfl, rfl, h2, DRep.of (by simpa using h) h3⟩
theorem DRep.append {K : PySem.W.Frag} {F : Hp} : ∀ {acc bcc : List (Key × D)} {us ws : List (Key × V)}, DRep K F acc us → DRep K F bcc ws → DRep K F (acc ++ bcc) (us ++ ws)
  | [], _, _, _, h, h' => by rw [show _ = [] from h]; exact h'
  | p :: acc, _, _, _, ⟨u, us', h1, h2, h3, h4⟩, h' => by subst h1; exact ⟨u, us' ++ _, rfl, h2, h3, h4.append h'⟩
theorem DRep.any {K : PySem.W.Frag} {F : Hp} (k : Key) : ∀ {acc : List (Key × D)} {us : List (Key × V)}, DRep K F acc us → (us.any fun kv => decide (kv.1 = k)) = acc.any fun kv => decide (kv.1 = k)
  | [], _, h => by rw [show _ = [] from h]; rfl
  | p :: acc, _, ⟨u, us', h1, h2, h3, h4⟩ => by subst h1; rw [List.any_cons, List.any_cons, h4.any k, h2]
theorem DRep.over {K : PySem.W.Frag} {F : Hp} {k : Key} {d : D} {v : V} (hv : Rep K F d v) : ∀ {acc : List (Key × D)} {us : List (Key × V)}, DRep K F acc us → DRep K F (acc.map fun kv => if kv.1 = k then (kv.1, d) else kv) (us.map fun kv => if kv.1 = k then (kv.1, v) else kv)
  | [], _, h => by rw [show _ = [] from h]; rfl
  | p :: acc, _, ⟨u, us', h1, h2, h3, h4⟩ => by
    subst h1
    refine ⟨_, _, List.map_cons, ?_, ?_, h4.over hv⟩
    · dsimp only
      rw [h2]
      by_cases hk : p.1 = k
      · rw [if_pos hk, if_pos hk]
      · rw [if_neg hk, if_neg hk]; exact h2
    · dsimp only
      rw [h2]
      by_cases hk : p.1 = k
      · rw [if_pos hk, if_pos hk]; exact hv
      · rw [if_neg hk, if_neg hk]; exact h3
theorem DRep.put {K : PySem.W.Frag} {F : Hp} {k : Key} {d : D} {v : V} {acc : List (Key × D)} {us : List (Key × V)} (h : DRep K F acc us) (hv : Rep K F d v) : DRep K F (putD acc k d) (putK us k v) := by
  unfold putD putK
  rw [h.any k]
  by_cases hk : (acc.any fun kv => decide (kv.1 = k)) = true
  · rw [if_pos hk, if_pos hk]; exact h.over hv
  · rw [if_neg hk, if_neg hk]; exact h.append ⟨(k, v), [], rfl, rfl, hv, rfl⟩
theorem zip_maps {α β : Type} : ∀ us : List (α × β), (us.map (·.1)).zip (us.map (·.2)) = us
  | [] => rfl
  | u :: us => by rw [List.map_cons, List.map_cons, List.zip_cons_cons, zip_maps us]
def dicD (acc : List (Key × D)) : D := .dic (acc.map (·.1)) (acc.map (·.2))
theorem own_dicD {K : PySem.W.Frag} {F H : Hp} {p : Addr} {acc : List (Key × D)} {us : List (Key × V)} (h : DRep K F acc us) (hp : H p = some (.dK us)) : Own K F H p (dicD acc) := by
  refine ⟨us.map (·.2), ?_, by rw [List.length_map, List.length_map], h.vals⟩
  rw [← h.keys, zip_maps]
  exact hp
section
variable {X : Cy} {e a b c o tg kx vx : Expr} {es : List Expr} {st : Stmt} {sts rest body orelse : List Stmt} {r : Env2} {G : GD} {pos tpos p0 : Pos} {D0 : EndsD}
def DcTurn (X : Cy) (scope : Scope) (tg kx vx : Expr) (ifs : List Expr) (is : List Nat) (d : D) (acc : List (Key × D)) (r : Env2) (G : GD) (Nx : List (Key × D) → Env2 → GD → Prop) : Prop :=
  ∀ Y, BlkX X scope Y → WG Y tg d r G is fun r1 G1 => match ifs with
    | [] => ∀ Y, BlkX X scope Y → WE Y kx r1 G1 fun z r2 G2 => ∃ k, z = .sh (kD k) ∧ ∀ Y, BlkX X scope Y → WE Y vx r2 G2 fun z' r3 G3 => ∃ d' r4, fz r3 z' = some (d', r4) ∧ acc.length < LIM ∧ Nx (putD acc k d') (wipeD r4 is) G3
    | [c] => ∀ Y, BlkX X scope Y → WT Y c r1 G1 fun b r2 G2 => (b = true → ∀ Y, BlkX X scope Y → WE Y kx r2 G2 fun z r3 G3 => ∃ k, z = .sh (kD k) ∧ ∀ Y, BlkX X scope Y → WE Y vx r3 G3 fun z' r4 G4 => ∃ d' r5, fz r4 z' = some (d', r5) ∧ acc.length < LIM ∧ Nx (putD acc k d') (wipeD r5 is) G4) ∧ (b = false → Nx acc (wipeD r2 is) G2)
    | _ => False
theorem dc_turn {scope : Scope}  {ifs : List Expr} {is : List Nat} {d : D} {acc : List (Key × D)} {Nx : List (Key × D) → Env2 → GD → Prop} {F0 T F H : Hp} {σ : L2.St} {v : V} {L : Addr} {us : List (Key × V)}
    (lk : Lk X F0 T) (S : Sta X.K F0 (upd T L (.dK us)) F G H r (L2.wipe σ is)) (hT : T L = none) (h0 : F0 L = none) (ha : DRep X.K F0 acc us) (rp : Rep X.K F d v) (h : DcTurn X scope tg kx vx ifs is d acc r G Nx) {Pn : Hp → Prop}
    (hN : ∀ acc' us' r' G' F' H', Nx acc' r' G' → DRep X.K F' acc' us' → Sta X.K F0 (upd T L (.dK us')) F' G' H' r' (L2.wipe σ is) → Pn H') :
    blkG X scope tg v (L2.wipe σ is) H fun σ2 H2 => L2.wipe σ2 is = L2.wipe σ is ∧ blkT X scope ifs σ2 H2 fun b H3 =>
      if b = true then blkE X scope kx σ2 H3 fun y H4 => blkE X scope vx σ2 H4 fun z H5 => ∃ kvs k, y = kV k ∧ H5 L = some (.dK kvs) ∧ kvs.length < sizeLine ∧ Pn (upd H5 L (.dK (putK kvs k z))) else Pn H3 := by
  have wi : L2.wipe (L2.wipe σ is) is = L2.wipe σ is := by
    have aux : ∀ (js : List Nat) (τ : L2.St), (∀ j ∈ js, ∀ x, τ[j]? = some x → x = none) → L2.wipe τ js = τ := by
      intro js
      induction js with
      | nil => intro τ _; rfl
      | cons j js ih =>
        intro τ hτ
        unfold L2.wipe
        rw [ih τ fun k hk => hτ k (List.mem_cons_of_mem _ hk)]
        refine List.ext_getElem? fun k => ?_
        by_cases hjk : j = k
        · subst hjk
          by_cases hl : j < τ.length
          · rw [List.getElem?_set_self hl]
            cases e : τ[j]? with
            | none => rw [List.getElem?_eq_none_iff] at e; omega
            | some x => rw [hτ j List.mem_cons_self x e]
          · rw [List.getElem?_eq_none (by rw [List.length_set]; omega), List.getElem?_eq_none (by omega)]
        · rw [List.getElem?_set_ne hjk]
    refine aux is _ fun j hj x hx => ?_
    cases x with
    | none => rfl
    | some y => exact absurd hj (wipe_some hx).2
  have fin : ∀ (F2 : Hp) (G2 : GD) (H4 : Hp) (r2 r3 : Env2) (σ2 : L2.St) (z : Res) (y : V) (k : Key) (d' : D), L2.wipe σ2 is = L2.wipe σ is → Sta X.K F0 (upd T L (.dK us)) F2 G2 H4 r2 σ2 → ResOk X.K (upd T L (.dK us)) F2 G2 H4 r2 σ2 z y → fz r2 z = some (d', r3) → acc.length < LIM → Nx (putD acc k d') (wipeD r3 is) G2 →
      ∃ kvs k', kV k = kV k' ∧ H4 L = some (.dK kvs) ∧ kvs.length < sizeLine ∧ Pn (upd H4 L (.dK (putK kvs k' y))) := fun F2 G2 H4 r2 r3 σ2 z y k d' hw S2 k2 q1 q2 q3 => by
    obtain ⟨F3, e3, S3, rp3⟩ := S2.fz k2 q1
    have hL : H4 L = some (.dK us) := S3.bas.tk L _ upd_same
    have ha3 : DRep X.K F3 acc us := DRep.mono S3.bas.ff ha
    have fL : F3 L = none := by
      cases e : F3 L with
      | none => rfl
      | some u =>
        rcases S3.bas.ft L u e with zz | zz
        · rw [h0] at zz; cases zz
        · rw [upd_same] at zz; cases zz
    have gL : G2 L = none := by
      cases e : G2 L with
      | none => rfl
      | some u => have zz := S3.bas.gt L u e; rw [upd_same] at zz; cases zz
    refine ⟨us, k, rfl, hL, by rw [ha3.length]; exact lim_lt q2, hN _ (putK us k y) _ G2 F3 _ q3 (ha3.put rp3) ?_⟩
    have Sw := S3.wipe is hw
    refine ⟨⟨Sw.bas.ff, fun q u hq => ?_, fun q u hq => ?_, fun q u hq => ?_, Sw.bas.fg, fun q u hq => ?_, fun q u hq => ?_⟩, Sw.len, fun i s hs => ?_, Sw.ap⟩
    · have hqL : q ≠ L := fun zz => by subst zz; rw [fL] at hq; cases hq
      have := Sw.bas.ft q u hq
      rw [upd_ne hqL] at this ⊢
      exact this
    · have hqL : q ≠ L := fun zz => by subst zz; rw [fL] at hq; cases hq
      rw [upd_ne hqL]; exact Sw.bas.fh q u hq
    · have hqL : q ≠ L := fun zz => by subst zz; rw [gL] at hq; cases hq
      exact (Sw.bas.gh q u hq).mono (Ex.refl _) fun o ho => by rw [upd_ne hqL]; exact ho
    · have hqL : q ≠ L := fun zz => by subst zz; rw [gL] at hq; cases hq
      have := Sw.bas.gt q u hq
      rw [upd_ne hqL] at this ⊢
      exact this
    · by_cases hqL : q = L
      · subst hqL; rw [upd_same] at hq ⊢; exact hq
      · rw [upd_ne hqL] at hq ⊢
        exact Sw.bas.tk q u (by rw [upd_ne hqL]; exact hq)
    · have hh := Sw.sl i s hs
      cases s with
      | no => trivial
      | sh d => exact hh
      | own d =>
        obtain ⟨p, k1, k3, k4, k5, k6⟩ := hh
        have hpL : p ≠ L := fun zz => by subst zz; rw [upd_same] at k6; cases k6
        rw [upd_ne hpL] at k6
        exact ⟨p, k1, k3.mono (Ex.refl _) (fun u hu => by rw [upd_ne hpL]; exact hu), k4, k5, by rw [upd_ne hpL]; exact k6⟩
  intro Y hY pins s u I rv
  have lk' : Lk X F0 (upd T L (.dK us)) := lk.ext (Ex.new hT)
  have hYK : Y.K = X.K := hY.k
  have h' := h Y hY
  unfold WG at h'
  rw [hYK] at h'
  refine wpAny_mono (h' F0 (upd T L (.dK us)) F H (L2.wipe σ is) v (hY.lk lk') S rp pins s u I rv) (fun _ s' ⟨σ', H', I', hw, r', G', F', e', S', q⟩ => ⟨σ', H', I', hw.trans wi, ?_⟩) fun _ _ x => x
  have hw' := hw.trans wi
  match ifs, q with
  | [], q =>
    unfold blkT
    dsimp only
    rw [if_pos rfl]
    intro Z hZ
    have q' := q Z hZ
    unfold WE at q'
    rw [hZ.k] at q'
    refine (q' F0 _ F' H' σ' (hZ.lk lk') S').mono fun y H4 ⟨z, r2, G2, F2, e2, S2, k2, k, hz, m1⟩ => ?_
    subst hz
    cases rep_kD (K := X.K) k2
    intro W hW
    have q2 := m1 W hW
    unfold WE at q2
    rw [hW.k] at q2
    exact (q2 F0 _ F2 H4 σ' (hW.lk lk') S2).mono fun u H5 ⟨z', r3, G3, F3, e3, S3, k3, d', r4, n1, n2, n3⟩ => fin F3 G3 H5 r3 r4 σ' z' u k d' hw' S3 k3 n1 n2 n3
  | [c], q =>
    intro Z hZ
    have q' := q Z hZ
    unfold WT at q'
    rw [hZ.k] at q'
    refine (q' F0 _ F' H' σ' (hZ.lk lk') S').mono fun b H3 ⟨r2, G2, F2, e2, S2, m1, m2⟩ => ?_
    cases b with
    | true =>
      rw [if_pos rfl]
      intro W hW
      have q2 := m1 rfl W hW
      unfold WE at q2
      rw [hW.k] at q2
      refine (q2 F0 _ F2 H3 σ' (hW.lk lk') S2).mono fun y H4 ⟨z, r3, G3, F3, e3, S3, k3, k, hz, n1⟩ => ?_
      subst hz
      cases rep_kD (K := X.K) k3
      intro V hV
      have q3 := n1 V hV
      unfold WE at q3
      rw [hV.k] at q3
      exact (q3 F0 _ F3 H4 σ' (hV.lk lk') S3).mono fun u H5 ⟨z', r4, G4, F4, e4, S4, k4, d', r5, p1, p2, p3⟩ => fin F4 G4 H5 r4 r5 σ' z' u k d' hw' S4 k4 p1 p2 p3
    | false =>
      rw [if_neg Bool.false_ne_true]
      exact hN acc us _ G2 F2 H3 (m2 rfl) (DRep.mono S2.bas.ff ha) (S2.wipe is hw')
  | _ :: _ :: _, q => exact q.elim
/-- what a comprehension's loop keeps -/
def DcInv (K : PySem.W.Frag) (T Fa : Hp) (τ : L2.St) (L : Addr) (I : List (Key × D) → Env2 → GD → Prop) : Hp → Prop := fun H' =>
  ∃ acc us r' G' F', DRep K F' acc us ∧ Sta K Fa (upd T L (.dK us)) F' G' H' r' τ ∧ I acc r' G'
theorem dc_begin {K : PySem.W.Frag} {F0 T F H : Hp} {σ : L2.St} {is : List Nat} {L : Addr} {I : List (Key × D) → Env2 → GD → Prop} (S : Sta K F0 T F G H r σ) (hL : H L = none) (h0 : I [] (wipeD r is) G) : DcInv K T F (L2.wipe σ is) L I (upd H L (.dK [])) := by
  obtain ⟨f1, f2, f3⟩ := S.bas.freshF hL
  have Sb := (S.newH (o := .dK []) hL).base.wipe (σ := σ) is rfl
  refine ⟨[], [], _, G, F, rfl, ⟨⟨Sb.bas.ff, fun q u hq => .inl hq, Sb.bas.fh, Sb.bas.gh, Sb.bas.fg, fun q u hq => ?_, fun q u hq => ?_⟩, Sb.len, fun i s hs => ?_, Sb.ap⟩, h0⟩
  · have hq' : q ≠ L := fun z => by subst z; rw [f2] at hq; cases hq
    rw [upd_ne hq']; exact Sb.bas.gt q u hq
  · by_cases hq' : q = L
    · subst hq'; rw [upd_same] at hq ⊢; exact hq
    · rw [upd_ne hq'] at hq; exact Sb.bas.tk q u hq
  · have hh := Sb.sl i s hs
    cases s with
    | no => trivial
    | sh d => exact hh
    | own d =>
      obtain ⟨p, k1, k2, k3, k4, k5⟩ := hh
      have hp : p ≠ L := fun z => by
        subst z
        by_cases hi : i ∈ is
        · have : (L2.wipe σ is)[i]? ≠ some (some (V.ref p)) := fun z => (wipe_some z).2 hi
          exact this k1
        · have e := (wipe_some k1).1
          have hr : r[i]? = some (.own d) := by
            have aux : ∀ (js : List Nat), i ∉ js → (wipeD r js)[i]? = r[i]? := by
              intro js
              induction js with
              | nil => intro _; rfl
              | cons j js ih =>
                intro hj
                unfold wipeD
                rw [List.getElem?_set_ne (fun z => hj (by rw [z]; exact List.mem_cons_self)), ih (fun z => hj (List.mem_cons_of_mem _ z))]
            rw [aux is hi] at hs
            exact hs
          exact S.freshR hL i d hr e
      exact ⟨p, k1, k2, k3, k4, by rw [upd_ne hp]; exact k5⟩
theorem dc_end {K : PySem.W.Frag} {F0 T Fa : Hp} {Ga : GD} {Ha H' : Hp} {σ : L2.St} {is : List Nat} {L : Addr} {I : List (Key × D) → Env2 → GD → Prop} {Q : Res → Env2 → GD → Prop} (B : Bas K F0 T Fa Ga Ha) (hL : Ha L = none) (hσ : Wk r (wipeD r is)) (S0 : Sta K F0 T Fa Ga Ha r σ) (h : DcInv K T Fa (L2.wipe σ is) L I H') (he : ∀ acc r' G', I acc r' G' → Q (.fr (dicD acc)) r' G') :
    PostE K F0 T Fa σ Q (.ref L) H' := by
  obtain ⟨acc, us, r', G', F', ha, S, q⟩ := h
  obtain ⟨f1, f2, f3⟩ := B.freshF hL
  have fL : F' L = none := by
    cases e : F' L with
    | none => rfl
    | some u =>
      rcases S.bas.ft L u e with zz | zz
      · rw [f1] at zz; cases zz
      · rw [upd_same] at zz; cases zz
  have gL : G' L = none := by
    cases e : G' L with
    | none => rfl
    | some u => have zz := S.bas.gt L u e; rw [upd_same] at zz; cases zz
  have tsub : ∀ q u, T q = some u → upd T L (.dK us) q = some u := fun q u hq => by
    have hqL : q ≠ L := fun zz => by subst zz; rw [f3] at hq; cases hq
    rw [upd_ne hqL]; exact hq
  have tdown : ∀ q, upd T L (.dK us) q = none → T q = none := fun q hq => by
    cases hf : T q with
    | none => rfl
    | some u => rw [tsub q u hf] at hq; cases hq
  have slots : ∀ (i : Nat) (s : Sl), r'[i]? = some s → SlotOk K T F' G' H' s σ[i]? := fun i s hs => by
    have hh := S.sl i s hs
    cases s with
    | no => trivial
    | sh d => obtain ⟨v, k1, k2⟩ := hh; exact ⟨v, (wipe_some k1).1, k2⟩
    | own d => obtain ⟨p, k1, k2, k3, k4, k5⟩ := hh; exact ⟨p, (wipe_some k1).1, k2, k3, k4, tdown p k5⟩
  have St : Sta K F0 T F' G' H' r' σ := by
    refine ⟨⟨B.ff.trans S.bas.ff, fun q u hq => ?_, S.bas.fh, S.bas.gh, S.bas.fg, fun q u hq => tdown q (S.bas.gt q u hq), fun q u hq => S.bas.tk q u (tsub q u hq)⟩, by rw [S.len, wipe_length], slots, fun i j d e hij hi hj z => ?_⟩
    · rcases S.bas.ft q u hq with zz | zz
      · exact B.ft q u zz
      · exact .inr (tdown q zz)
    · obtain ⟨p, k1, _⟩ := S.ownS hi
      obtain ⟨p2, m1, _⟩ := S.ownS hj
      refine S.ap i j d e hij hi hj ?_
      rw [(wipe_some k1).1, (wipe_some m1).1] at z
      rw [k1, m1, z]
  refine ⟨.fr (dicD acc), r', G', F', S.bas.ff, St, ⟨L, rfl, own_dicD ha (S.bas.tk L _ upd_same), fL, gL, f3, fun i d hi z => ?_⟩, he acc r' G' q⟩
  obtain ⟨p, k1, _, _, _, k5⟩ := S.ownS hi
  have e1 := (wipe_some k1).1
  rw [e1] at z; cases z
  rw [upd_same] at k5; cases k5
/-- one step of a comprehension over items -/
theorem dc_step {scope : Scope} {ifs : List Expr} {is : List Nat} {d : D} {J : It} {ds : List D} {i : Nat} {T Fa : Hp} {H H' : Hp} {σ : L2.St} {v : V} {L : Addr} {I I' : List (Key × D) → Env2 → GD → Prop} (lk : Lk X Fa T) (hL : Fa L = none) (hT : T L = none) (hJ : ItD X.K J Fa ds) (hi : ds[i]? = some d) (h : DcInv X.K T Fa (L2.wipe σ is) L I H) (y : J.yld i H v H')
    (hs : ∀ acc r' G', I acc r' G' → DcTurn X scope tg kx vx ifs is d acc r' G' I') :
    blkG X scope tg v (L2.wipe σ is) H' fun σ2 H2 => L2.wipe σ2 is = L2.wipe σ is ∧ blkT X scope ifs σ2 H2 fun b H3 =>
      if b = true then blkE X scope kx σ2 H3 fun y H4 => blkE X scope vx σ2 H4 fun z H5 => ∃ kvs k, y = kV k ∧ H5 L = some (.dK kvs) ∧ kvs.length < sizeLine ∧ DcInv X.K T Fa (L2.wipe σ is) L I' (upd H5 L (.dK (putK kvs k z))) else DcInv X.K T Fa (L2.wipe σ is) L I' H3 := by
  obtain ⟨acc, us, r', G', F1, ha1, S1, q⟩ := h
  obtain ⟨F', ef, S, rp⟩ := hJ.item S1.bas.ff S1 hi y
  have ha := DRep.mono ef ha1
  have fL : F' L = none := by
    cases e : F' L with
    | none => rfl
    | some u =>
      rcases S.bas.ft L u e with zz | zz
      · rw [hL] at zz; cases zz
      · rw [upd_same] at zz; cases zz
  have lk' : Lk X F' T := ⟨lk.t, lk.f.trans S.bas.ff, fun a o ho => (S.bas.ft a o ho).elim (fun z => lk.ft a o z) fun z => .inr (none_of lk.t (none_of (Ex.new hT) z))⟩
  refine dc_turn lk' S.base hT fL ha rp (hs acc r' G' q) fun acc' us' r2 G2 F2 H2 q2 ha2 S2 => ?_
  refine ⟨acc', us', r2, G2, F2, ha2, ⟨⟨S.bas.ff.trans S2.bas.ff, fun q u hq => ?_, S2.bas.fh, S2.bas.gh, S2.bas.fg, S2.bas.gt, S2.bas.tk⟩, S2.len, S2.sl, S2.ap⟩, q2⟩
  rcases S2.bas.ft q u hq with zz | zz
  · rcases S.bas.ft q u zz with yy | yy
    · exact .inl yy
    · by_cases hqL : q = L
      · subst hqL; rw [fL] at zz; cases zz
      · rw [upd_ne hqL] at yy ⊢; exact .inr yy
  · exact .inr zz
theorem we_dc {scope : Scope} {ifs : List Expr} (own : List (Str × Nat)) {Q : Res → Env2 → GD → Prop} (hc : X.calm = true) (hN : X.N.Nodup) (ok : BlkOk X.N X.env.scope scope own)
    (h : WI X tg e r G fun ds r2 G1 => ∃ I : Nat → List (Key × D) → Env2 → GD → Prop, I 0 [] (wipeD r2 (own.map (·.2))) G1 ∧ (∀ (k : Nat) (d : D) (acc : List (Key × D)) (r3 : Env2) (G3 : GD), ds[k]? = some d → I k acc r3 G3 → DcTurn X scope tg kx vx ifs (own.map (·.2)) d acc r3 G3 (I (k + 1))) ∧
      ∀ acc r3 G3, I ds.length acc r3 G3 → Q (.fr (dicD acc)) r3 G3) (hs : ∀ x, foldedSetIterable e X.env x = pure x := by intro _; rfl) : WE X (.DictComp kx vx [⟨tg, e, ifs, 0⟩] scope pos) r G Q := fun F0 T F H σ lk S =>
  Run.of (pe_dc hc hN piR ok blkG_ok blkT_ok blkE_ok blkE_ok hs) (by
    refine (h F0 T F H σ lk S).mono fun J H1 ⟨ds, r2, G1, Fa, e1, Sa, hJ, I, i0, it, ie⟩ L hL => ?_
    obtain ⟨f1, f2, f3⟩ := Sa.bas.freshF hL
    refine ⟨fun i m H' => m = ds.length - i ∧ i ≤ ds.length ∧ DcInv X.K T Fa (L2.wipe σ (own.map (·.2))) L (I i) H', ⟨ds.length, by simp, Nat.zero_le _, dc_begin Sa hL i0⟩, ?_⟩
    rintro i m H' ⟨rfl, hi, hI⟩
    obtain ⟨_, _, _, _, F', _, S', _⟩ := id hI
    obtain ⟨j1, j2⟩ := hJ F' H' S'.bas.ff S'.bas.fh
    by_cases hlt : i < ds.length
    · obtain ⟨j3, _⟩ := j2 i ds[i] (List.getElem?_eq_getElem hlt)
      refine .inr ⟨j3, fun H2 => DcInv X.K T Fa (L2.wipe σ (own.map (·.2))) L (I (i + 1)) H2, fun H2 p2 => ⟨ds.length - (i + 1), by omega, rfl, hlt, p2⟩, fun x H2 y => ?_⟩
      exact dc_step (lk.base Sa.bas) f1 f3 hJ (List.getElem?_eq_getElem hlt) hI y fun acc r' G' q => it i ds[i] acc r' G' (List.getElem?_eq_getElem hlt) q
    · have e : i = ds.length := by omega
      subst e
      exact .inl ⟨j1, (dc_end Sa.bas hL (wk_wipe _ _) Sa hI fun acc r' G' q => ie acc r' G' q).ext e1⟩)
end
section
variable {prog : Program} {w : World} {A : Around} {E : Value → Shared → Prop} {s : Shared}
theorem applied_rev {sl : Addr} {vk : Value} {n : Nat} {Q : Int × Int × Nat → Shared → Prop} (hs : s.heap.IsSliceOf sl .none .none vk) (pk : IsPart vk (some (-1)))
    (h : Q ((n : Int) - 1, -1, n) s) : wpAny (model prog w) A (Builtin.Slice.sliceApplied (.ref sl) (pure (n : Int))) Q E s := by
  obtain ⟨os, hos, hcs, hds⟩ := id hs
  unfold Builtin.Slice.sliceApplied Builtin.Slice.sliceFields
  refine wpAny_bind (wpAny_bind (wpAny_field hos hds (x := .none) rfl (wpAny_bind (wpAny_field hos hds (x := .none) rfl (wpAny_bind (wpAny_field hos hds (x := vk) rfl (wpAny_pure ?_)))))))
  refine wpAny_bind (HT.slicePart_ pk ?_)
  show wpAny _ _ (if ((-1 : Int) == 0) = true then _ else _) _ _ s
  rw [if_neg (by decide)]
  refine wpAny_bind (HT.slicePart_ .none (wpAny_bind (HT.slicePart_ .none (wpAny_bind (wpAny_pure ?_)))))
  have e : Builtin.Slice.slicePlaces ((n : Int) - 1) (-1) (-1) = n := by
    unfold Builtin.Slice.slicePlaces
    rw [if_neg (by decide)]
    by_cases h : (n : Int) - 1 > -1
    · rw [if_pos h, show (- -1 : Int) = 1 from rfl, Int.ediv_one]
      omega
    · rw [if_neg h]
      omega
  show wpAny _ _ (pure ((n : Int) - 1, (-1 : Int), Builtin.Slice.slicePlaces ((n : Int) - 1) (-1) (-1))) _ _ s
  rw [e]
  exact wpAny_pure h
theorem pick_rev (xs : Array Value) : ((List.range xs.size).filterMap fun (m : Nat) => xs[((xs.size : Int) - 1 + (m : Int) * -1).toNat]?).toArray = xs.toList.reverse.toArray := by
  rw [← PySem.W.krv_all, ← List.filterMap_reverse, ← PySem.W.krv_range, List.filterMap_map]
  congr 1
  have key : ∀ l : List Nat, (∀ m ∈ l, m < xs.size) → l.filterMap (fun (m : Nat) => xs[((xs.size : Int) - 1 + (m : Int) * -1).toNat]?) = l.filterMap ((fun i => xs[i]?) ∘ fun k => xs.size - 1 - k) := by
    intro l
    induction l with
    | nil => intro _; rfl
    | cons m l ih =>
      intro h
      have hm := h m List.mem_cons_self
      have e : ((xs.size : Int) - 1 + (m : Int) * -1).toNat = xs.size - 1 - m := by omega
      rw [List.filterMap_cons, List.filterMap_cons, ih fun k hk => h k (List.mem_cons_of_mem _ hk), e]
      rfl
  exact key _ fun m hm => List.mem_range.mp hm
theorem getItem_rev {t sl : Addr} {items : Array Value} {vk : Value} {Q : Value → Shared → Prop} (ht : IsTup s.heap t items) (hs : s.heap.IsSliceOf sl .none .none vk) (pk : IsPart vk (some (-1)))
    (h : Q (.ref s.heap.objs.size) { s with heap := s.heap.push { cls := .type "tuple", data := .seq items.toList.reverse.toArray } })
    (hsz : items.size ≤ sizeLine) : wpAny (model prog w) A (getItem (.ref t) (.ref sl)) Q E s := by
  have htake : sizeOk (.seq items.toList.reverse.toArray) := by
    show items.toList.reverse.toArray.size ≤ sizeLine
    rw [List.size_toArray, List.length_reverse, Array.length_toList]
    exact hsz
  obtain ⟨os, hos, hcs, hds⟩ := id hs
  have hTs : s.TypeIs (.ref sl) "slice" := ⟨os, hos, hcs⟩
  unfold getItem
  try with_reducible refine wpAny_holding ?_
  first | refine wpAny_bind (wpAny_pure ?_) | skip
  refine wpAny_bind (wpAny_sequenceKey ht.typeIs (by decide) ?_)
  refine wpAny_bind (wpAny_callSpecial?_slot (name := Str.ofString "__getitem__") ht.typeIs PyProof.Rows.slot_tuple_getitem
    (wpAny_call_entry PyProof.Rows.slot_tuple_getitem ht.typeIs entry_tuple_getitem ?_ (args_tuple_getitem _ _)))
  show wpAny _ _ (Builtin.Tuple.tupleItemsOf (.ref t) >>= _) _ _ s
  refine wpAny_bind (tupleItemsOf_ ht ?_)
  refine wpAny_bind (wpAny_typeOf hTs ?_)
  rw [if_pos (by decide)]
  refine wpAny_bind (applied_rev hs pk ?_)
  show wpAny _ _ (if (((items.size : Int) - 1) == 0 && (-1 : Int) == 1 && items.size == items.size) = true then _ else _) _ _ s
  rw [if_neg (by simp), pick_rev]
  first
    | exact wpAny_bind (m := Builtin.Tuple.tupleExact _) (wpAny_newObj_type (wpAny_pure ⟨_, rfl, wpAny_pure h⟩) htake)
    | exact wpAny_bind (m := Builtin.Tuple.tupleExact _) (wpAny_newObj_type (wpAny_bind (wpAny_pure (wpAny_pure ⟨_, rfl, wpAny_pure h⟩))) htake)
    | exact wpAny_bind (wpAny_bind (m := Builtin.Tuple.tupleExact _) (wpAny_newObj_type (wpAny_pure (wpAny_pure ⟨_, rfl, wpAny_pure h⟩)) htake))
    | exact wpAny_bind (wpAny_bind (m := Builtin.Tuple.tupleExact _) (wpAny_newObj_type (wpAny_pure ⟨_, rfl, wpAny_pure h⟩) htake))
end
section
variable {X : Cy} {e a b c o tg kx vx : Expr} {es : List Expr} {st : Stmt} {sts rest body orelse : List Stmt} {r : Env2} {G : GD} {pos tpos p0 p1 p2 : Pos} {D0 : EndsD}
def tRvT (K : PySem.W.Frag) (te : TE) : TE := fun σ H Q => te σ H fun v H1 => ∃ (a : Addr) (xs : List V), v = .ref a ∧ ((SqT K H1 a xs ∧ ∀ p, H1 p = none → Q (.ref p) (upd H1 p (.tup xs.reverse))) ∨ (SqL K H1 a xs ∧ ∀ p, H1 p = none → Q (.ref p) (upd H1 p (.lst xs.reverse))))
theorem pe_rv {te : TE} {p3 : Pos} {ci : Nat} (he : PE X e te) : PE X (.Subscript e (.Slice none none (some (.UnaryOp .USub (.Constant (.int 1) ci p1) p2)) p3) pos) (tRvT X.K te) := by
  refine ⟨fun pins s σ H Q I h => ?_⟩
  refine Subscript_ (thn (he.run pins s σ H _ I h) fun v s1 ⟨x, H1, I1, r1, a, xs, ex, q1⟩ => ?_)
  subst ex
  cases r1
  refine wpAny_Slice ?_
  rw [evalPart_none]
  refine wpAny_pure (wpAny_pure ?_)
  have po : PO X (some (.UnaryOp .USub (.Constant (.int 1) ci p1) p2)) _ := po_some (pe_un un_neg pe_int)
  refine thn (po.run pins s1 σ H1 (fun o H2 => o = some (-1) ∧ H2 = H1) I1 ⟨1, rfl, -1, rfl, rfl, rfl⟩) fun vk s2 ⟨o, H2, I2, pk, e1, e2⟩ => ?_
  subst e1 e2
  have I3 : Inv X pins σ H2 { s2 with heap := s2.heap.push { cls := .type "slice", data := .fields #[.none, .none, vk] } } := I2.kept (t' := s2.toks) fun b ob q => Heap.get?_push_of_some _ q
  have hs : Heap.IsSliceOf (s2.heap.push { cls := .type "slice", data := .fields #[.none, .none, vk] }) s2.heap.objs.size .none .none vk := Heap.IsSliceOf.new ..
  rcases q1 with ⟨hx, q⟩ | ⟨hx, q⟩
  · obtain ⟨its, rr, ht, hz⟩ := I3.tuple hx
    have hlen := rr.length
    refine tail_any (ops := [.ref a, .ref s2.heap.objs.size]) (T := "tuple") ht.typeIs PyProof.Rows.slot_tuple_getitem.lookup (getItem_rev ht hs pk ?_ (by rw [List.size_toArray]; omega)) (by with_unfolding_all rfl)
    refine ⟨.ref _, _, I3.laid (t' := s2.toks) (o := .tup xs.reverse) (fun b ob q => Heap.get?_push_of_some _ q) (Nat.le_refl _) ?_, rfl, q _ (I3.hok.fresh (Nat.le_refl _))⟩
    exact ⟨by rw [List.length_reverse]; exact hz, _, rr.reverse, IsTup.new _ _⟩
  · obtain ⟨its, rr, ht, hz⟩ := I3.list hx
    have hlen := rr.length
    refine tail_any (ops := [.ref a, .ref s2.heap.objs.size]) (T := "list") ht.isList.typeIs slot_list_getitem.lookup (wpAny_getItem_list_slice ht.isList hs .none .none pk (by decide) ?_ (by rw [List.size_toArray]; omega)) (by with_unfolding_all rfl)
    rw [PySem.W.krv_pick]
    refine ⟨.ref _, _, I3.laid (t' := s2.toks) (o := .lst xs.reverse) (fun b ob q => Heap.get?_push_of_some _ q) (Nat.le_refl _) ?_, rfl, q _ (I3.hok.fresh (Nat.le_refl _))⟩
    exact ⟨by rw [List.length_reverse]; exact hz, _, 0, rr.reverse, Heap.get?_push_size _ rfl⟩
theorem RepL.rev {K : PySem.W.Frag} {F : Hp} : ∀ {ds : List D} {vs : List V}, RepL K F ds vs → RepL K F ds.reverse vs.reverse
  | [], _, h => by rw [show _ = [] from h]; rfl
  | d :: ds, _, ⟨v, vs', h1, h2, h3⟩ => by
    subst h1
    rw [List.reverse_cons, List.reverse_cons]
    exact (RepL.rev h3).append (.one h2)
theorem we_rvT {p3 : Pos} {ci : Nat} {Q : Res → Env2 → GD → Prop} (h : WE X a r G fun x r1 G1 => ∃ ds, vw r1 x = some (.tup ds) ∧ Q (.sh (.tup ds.reverse)) r1 G1) : WE X (.Subscript a (.Slice none none (some (.UnaryOp .USub (.Constant (.int 1) ci p1) p2)) p3) pos) r G Q := fun F0 T F H σ lk S =>
  Run.of (pe_rv peR) ((h F0 T F H σ lk S).mono fun v H1 ⟨x, r1, G1, F1, e1, S1, k1, ds, q1, q2⟩ => by
    obtain ⟨p, vs, rfl, z1, z2⟩ := (S1.view k1 q1).tup S1.bas.fh
    refine ⟨p, vs, rfl, .inl ⟨z1, fun l hl => ?_⟩⟩
    obtain ⟨x', F', f1, f2, f3, f4⟩ := new_tup S1 (RepL.rev z2) hl (Q := fun z => Q z r1 G1) q2
    exact ⟨x', r1, G1, F', e1.trans f1, f2, f3, f4⟩)
theorem call_sortedDA (hcalm : X.calm = true) : CallR X (.builtin "sorted") (fun xs H Q => ∃ (a : Addr) (kvs : List (Key × V)) (ks : List Int), xs = [.ref a] ∧ Rd H a (.dK kvs) ∧ kvs.map (·.1) = ks.map Sum.inl ∧
    ∀ (ys : List Int) (p : Addr), ys.Perm ks → ys.Pairwise (· ≤ ·) → H p = none → Q (.ref p) (upd H p (.lst (ys.map V.int)))) := by
  intro pins s σ H xs us Q I r q
  obtain ⟨a, kvs, ks, ex, hd, hks, q⟩ := q
  subst ex
  obtain ⟨u, eu, rx⟩ := vals1 r
  subst eu
  cases rx
  obtain ⟨z, lo, vs, rel, dd⟩ := dk_rd I.hok hd
  obtain ⟨ep, hat⟩ := dd.dictAt
  have hkeys : vs.map (·.1) = ks.map Sum.inl := rel.keys.symm.trans hks
  have hl : vs.length = ks.length := by
    have e := congrArg List.length hkeys
    rw [List.length_map, List.length_map] at e
    exact e
  have h16 : vs.length ≤ sizeLine := by rw [← rel.length]; exact z
  refine Calls.call_function_entry PyProof.Rows.kind_sorted PyProof.Rows.plain_sorted PyProof.Rows.entry_sorted (PyProof.Rows.args_sorted1 _) ?_
  unfold Builtin.«sorted»
  refine wpAny_bind (m := checkCount "sorted" 1 1 _) (wpAny_pure ?_)
  refine wpAny_bind (PySem.W.kdu_collect (A := X.A.in1) (PySem.W.kdl_dict (knd := mixKind X.prog X.w) (kvs := vs) (ep := ep) lo) (I.ok.hd hcalm) hat h16 fun h' tk acc hk hacc => ?_)
  have hal : acc.toList.length = ks.length := by rw [Array.length_toList, hacc.1, hl]
  have hS : IntsAre acc.toList ks := ints_each hal fun j v e => by
    obtain ⟨k, x, e1, e2⟩ := hacc.2 j v (by rw [← Array.getElem?_toList]; exact e)
    have e3 : (vs.map (·.1))[j]? = some k := by rw [List.getElem?_map, e1]; rfl
    rw [hkeys, List.getElem?_map] at e3
    cases e4 : ks[j]? with
    | none => rw [e4] at e3; cases e3
    | some y =>
      rw [e4] at e3
      have e5 : Sum.inl y = k := Option.some.inj e3
      subst e5
      rcases keyIs_shape (show keyIs (Sum.inl y) v = true from e2) with ⟨i, t, ek, ev⟩ | ⟨z, t, ek, ev⟩
      · cases ek
        exact ⟨y, t, rfl, ev⟩
      · cases ek
  have I1 : Inv X pins σ H { s with heap := h', toks := tk } := I.kept hk
  refine wpAny_bind (wpAny_newList ?_ (by rw [hal, ← hl]; exact h16))
  have hoL : (h'.push (seqObj "list" acc.toList.toArray 0)).get? h'.objs.size = some (seqObj "list" acc.toList.toArray 0) := Heap.get?_push_size _ rfl
  show wpAny _ _ _ _ _ { s with heap := h'.push (seqObj "list" acc.toList.toArray 0), toks := tk }
  refine wpAny_bind (wpAny_holding (wpAny_call_entry PyProof.Rows.slot_list_sort ⟨_, hoL, rfl⟩ PyProof.Rows.entry_list_sort
    (SrtO.list_sort_ord (s := { s with heap := h'.push (seqObj "list" acc.toList.toArray 0), toks := tk }) SrtO.swo_int hoL (by rw [hal, ← hl]; exact h16) (fun h2 => SrtO.ints_sortable hS h2) fun out g1 g2 => ⟨_, rfl, ?_⟩) (PyProof.Rows.args_list_sort _)))
  obtain ⟨k1, k2, k3⟩ := SrtO.ints_out hS g1 g2
  obtain ⟨e', he'⟩ := PyProof.Rows.sortedHeap_at (vs := acc.toList) (out := out.toArray) hoL
  have hlen : ((out.map SrtO.iv).map V.int).length ≤ sizeLine := by
    rw [List.length_map, k2.length_eq, ← hl]
    exact h16
  refine wpAny_pure ⟨_, rfl, .ref h'.objs.size, upd H h'.objs.size (.lst ((out.map SrtO.iv).map V.int)), I1.laid (t' := tk) (fun b u e => ?_) (Nat.le_refl _)
    (show ObjOk X.prog X.w _ _ _ (.lst ((out.map SrtO.iv).map V.int)) from ⟨hlen, out, e', vals_of_ints k1, he'⟩), rfl, q _ _ k2 k3 (I1.hok.fresh (Nat.le_refl _))⟩
  have hb : b < h'.objs.size := Heap.lt_size e
  rw [PyProof.Rows.sortedHeap_old (Nat.ne_of_lt hb) (by rw [size_push']; exact Nat.lt_succ_of_lt hb)]
  exact Heap.get?_push_of_some _ e
theorem c_sortedD {Q : Res → Prop} {ks : List Int} {ds : List D} (hcalm : X.calm = true) (q : Q (.fr (.lst ((isort ks).map D.int)))) : CallW1 X (.builtin "sorted") (.dic (ks.map Sum.inl) ds) Q := fun F0 T F G H r σ v S h => by
  obtain ⟨p, vs, rfl, k1, k2, k3⟩ := h.dic S.bas.fh
  refine ⟨_, call_sortedDA hcalm, p, _, ks, rfl, k1, ?_, fun ys l h1 h2 hl => ?_⟩
  · rw [List.map_fst_zip (by rw [k3.length]; omega)]
  · rw [isort_of h1 h2]
    exact new_lst S (RepL.of_ints _) hl q
theorem DRep.fold {K : PySem.W.Frag} {F : Hp} : ∀ {kvs acc : List (Key × D)} {us ws : List (Key × V)}, DRep K F acc ws → DRep K F kvs us → DRep K F (kvs.foldl (fun acc kv => putD acc kv.1 kv.2) acc) (mergeK ws us)
  | [], _, _, _, h, h' => by rw [show _ = [] from h']; exact h
  | kv :: kvs, acc, _, ws, h, ⟨u, us', h1, h2, h3, h4⟩ => by
    subst h1
    have : DRep K F (putD acc kv.1 kv.2) (putK ws u.1 u.2) := by rw [h2]; exact h.put h3
    have z := DRep.fold this h4
    exact z
end
/-- a special method of a class with slots: a plain def -/
structure SpecD (P : Program) (w : World) (K : PySem.W.Frag) (mg : Str → Option Value) (base : Heap) (C : Addr) (m : Str) (k : Nat) (ps : List Str) (sp : FSp) : Prop where
  ex : ∃ (g : Addr) (fd : FuncData), PySem.W.findIn K (.ref C) m = some (some (.ref g)) ∧ PySem.W.isFn K (.ref g) = true ∧ FnOk P w K mg base (CX P w) k g fd ps (spD K sp) ∧ Binds K fd ps []
section
variable {X : Cy} {e a b c o tg kx vx : Expr} {es : List Expr} {st : Stmt} {sts rest body orelse : List Stmt} {r : Env2} {G : GD} {pos tpos apos p0 p1 p2 : Pos} {D0 : EndsD}
/-- len(x), x an instance -/
def rLenOwn (C : Addr) (sp : Sp) (E : XK) : List V → Hp → VK → Prop := fun xs H Q => ∃ a dx vs, xs = [V.ref a] ∧ SlX.Slt H a C dx vs ∧ sp [.ref a] H (fun z H' => ∃ i, z = .int i ∧ (0 ≤ i ∧ i < 2 ^ 63) ∧ Q z H') E
theorem call_lenOwn {C g : Addr} {CX : CXT} {n : Nat} {sp : Sp} {E : XK} (hs : PySem.W.findIn X.K (.ref C) "__len__" = some (some (.ref g))) (hf : PySem.W.isFn X.K (.ref g) = true) (F : FnR X.prog X.w X.K X.mg X.base CX n g sp) (hr : Room (n + 1) X.A) (hx : Passes CX X E) : CallR X (.builtin "len") (rLenOwn C sp E) := by
  intro pins s σ H xs us Q I r h
  obtain ⟨a, dx, vs, rfl, hsl, q⟩ := h
  obtain ⟨u, rfl, ru⟩ := r.one
  cases (show u = Value.ref a from ru)
  obtain ⟨sl, od, _, J, _⟩ := SlX.slt_inst I hsl
  obtain ⟨m, hF⟩ := I.fr
  refine PySem.W.len_K hF I.ok.mod.kin J hs hf (wpAny_mono (wpAny_call (SlX.run_at (us := [.ref a]) (ws := [.ref a]) F hr.in1 I.env0.in1 hx I (.cons rfl .nil) q)) (fun w s' z => ?_) fun _ _ x => x)
  obtain ⟨z', H', I', rz, i, ei, hi, qz⟩ := z
  subst ei
  obtain ⟨t, e⟩ := (show ∃ t, w = Value.int i t from rz)
  cases e
  exact ⟨hi, .int i, H', I'.tok _, ⟨_, rfl⟩, qz⟩
theorem passF {X : Cx} : Passes (L2.CX X.prog X.w) X (fun _ _ _ => False) := fun _ _ _ _ _ _ _ h => by
  obtain ⟨_, _, _, _, _, _, _, _, _, _, _, _, z⟩ := h
  exact z.elim
theorem Vw.rep_ins {K : PySem.W.Frag} {F H : Hp} {C : Addr} {ds : List D} {v : V} (h : Vw K F H (.ins C ds) v) : Rep K F (.ins C ds) v := by
  rcases h with z | ⟨_, _, z⟩
  · exact z
  · exact z.elim
/-- a promise met, the open region as it was -/
theorem spD_same {K : PySem.W.Frag} {F0 T F H : Hp} {σ : L2.St} {sp : FSp} {ds : List D} {vs : List V} {Q : Res → Prop} {E : XK} (S : Sta K F0 T F G H r σ) (ha : RepL K F ds vs) (h : sp ds G (fun z G2 => G2 = G ∧ Q z) (fun _ _ => False)) :
    spD K sp vs H (fun v H' => ∃ x F', Ex F F' ∧ Sta K F0 T F' G H' r σ ∧ ResOk K T F' G H' r σ x v ∧ Q x) E :=
  ⟨F, G, ds, _, _, S.bas.fh, S.bas.gh, S.bas.fg, ha, h, fun x G' v H' F' ⟨e1, hp⟩ B rt => by
    subst e1
    exact ⟨x, F', B.ff, S.after B, ResOk.after S B rt, hp⟩, fun _ _ _ _ _ _ z => z.elim⟩
theorem c_lenI {C : Addr} {k j : Nat} {ps : List Str} {sp : FSp} {ds : List D} {Q : Res → Prop} (M : SpecD X.prog X.w X.K X.mg X.base C "__len__" k ps sp) (hr : Room j X.A) (h : ∀ G, sp [.ins C ds] G (fun z G2 => G2 = G ∧ ∃ i, z = .sh (.int i) ∧ (0 ≤ i ∧ i < 2 ^ 63) ∧ Q z) (fun _ _ => False)) (hj : k + 1 ≤ j := by omega) : CallW1 X (.builtin "len") (.ins C ds) Q := fun F0 T F G H r σ v S hv => by
  obtain ⟨g, fd, h1, h2, h3, h4⟩ := M.ex
  have rp := hv.rep_ins
  obtain ⟨ad, dx, vs, rfl, z1, z2⟩ := hv.ins S.bas.fh
  refine ⟨_, call_lenOwn (E := fun _ _ _ => False) h1 h2 (fnr h3 h4) (hr.mono hj) passF, ad, dx, vs.map some, rfl, z1, ?_⟩
  obtain ⟨F1, G1, ds1, post, px, k1, k2, k3, k4, k5, k6, k7⟩ := spD_same (E := fun _ _ _ => False) S (.one rp) (h G)
  refine ⟨F1, G1, ds1, post, px, k1, k2, k3, k4, k5, fun x G' v' H' F' hp B rt => ?_, k7⟩
  obtain ⟨x', F'', q1, q2, q3, q4⟩ := k6 x G' v' H' F' hp B rt
  obtain ⟨i, rfl, hi, hq⟩ := q4
  exact ⟨i, q3, hi, .sh (.int i), F'', q1, q2, q3, hq⟩
end
section
variable {X : Cy} {e a b c o tg kx vx : Expr} {es : List Expr} {st : Stmt} {sts rest body orelse : List Stmt} {r : Env2} {G : GD} {pos tpos apos cpos p0 p1 p2 : Pos} {D0 : EndsD}
theorem rgI_V (a b : Int) : (rgI a b).map V.int = rgV a b := by unfold rgI rgV; rw [List.map_map]; rfl
end
theorem lt_ {i n : Nat} (h : Nat.ble (i + 1) n = true) : i < n := Nat.le_of_ble_eq_true h
theorem ixN0 {α : Type} (x : α) (xs : List α) : ixN (x :: xs).length 0 = some 0 := by
  unfold ixN
  rw [if_pos (by omega), if_pos (by rw [List.length_cons]; omega)]
  rfl
/-- what builtin names stand free -/
structure Bn (mg : Str → Option Value) : Prop where
  int : mg "int" = none
  len : mg "len" = none
  list : mg "list" = none
  range : mg "range" = none
  sorted : mg "sorted" = none
  tuple : mg "tuple" = none
  dict : mg "dict" = none
  isinstance : mg "isinstance" = none
  bool : mg "bool" = none
  str : mg "str" = none
  enumerate : mg "enumerate" = none
  reversed : mg "reversed" = none
  abs : mg "abs" = none
  min : mg "min" = none
  max : mg "max" = none
  sum : mg "sum" = none
  zip : mg "zip" = none
  set : mg "set" = none
  all : mg "all" = none
  divmod : mg "divmod" = none
section
variable {X : Cy} {r : Env2} {G : GD} {pos px py pz : Pos}
theorem wg_pair (i j : Nat) {x y : Str} {kt : Nat} {d1 d2 : D} {is : List Nat} {Q : Env2 → GD → Prop} (hc : X.calm = true) (nd : X.N.Nodup) (hi : X.N[i]? = some x) (hj : X.N[j]? = some y) (hx : L2.Loc X.env.scope x) (hy : L2.Loc X.env.scope y) (mi : i ∈ is) (mj : j ∈ is) (li : i < r.length) (lj : j < r.length)
    (q : Q ((r.set i (.sh d1)).set j (.sh d2)) G) (hfx : X.fn x = true ∨ X.env.scope.names.lookup x = some .local := by first | exact .inl rfl | exact .inr rfl | assumption) (hfy : X.fn y = true ∨ X.env.scope.names.lookup y = some .local := by first | exact .inl rfl | exact .inr rfl | assumption)
    (hn : (assignEach [.Name x px, .Name y py] X.env).length = 2 := by rfl) (hf : (assignEach [.Name x px, .Name y py] X.env).findIdx? (·.1) = none := by rfl) : WG X (.Tuple [.Name x px, .Name y py] kt pos) (.tup [d1, d2]) r G is Q :=
  wg_tup [i, j] hc (.cons (pg_name nd hi hx hfx) (.cons (pg_name nd hj hy hfy) .nil)) (fun t ht us => by
    rcases List.mem_cons.mp ht with rfl | ht
    · rfl
    · cases List.mem_singleton.mp ht; rfl) (fun k hk => by
    rcases List.mem_cons.mp hk with rfl | hk
    · exact mi
    · cases List.mem_singleton.mp hk; exact mj) rfl (fun k hk => by
    rcases List.mem_cons.mp hk with rfl | hk
    · exact li
    · cases List.mem_singleton.mp hk; exact lj) q hn hf
theorem wg_trip (i j l : Nat) {x y z : Str} {kt : Nat} {d1 d2 d3 : D} {is : List Nat} {Q : Env2 → GD → Prop} (hc : X.calm = true) (nd : X.N.Nodup) (hi : X.N[i]? = some x) (hj : X.N[j]? = some y) (hk : X.N[l]? = some z) (hx : L2.Loc X.env.scope x) (hy : L2.Loc X.env.scope y) (hz : L2.Loc X.env.scope z) (mi : i ∈ is) (mj : j ∈ is) (ml : l ∈ is) (li : i < r.length) (lj : j < r.length) (ll : l < r.length)
    (q : Q (((r.set i (.sh d1)).set j (.sh d2)).set l (.sh d3)) G) (hfx : X.fn x = true ∨ X.env.scope.names.lookup x = some .local := by first | exact .inl rfl | exact .inr rfl | assumption) (hfy : X.fn y = true ∨ X.env.scope.names.lookup y = some .local := by first | exact .inl rfl | exact .inr rfl | assumption) (hfz : X.fn z = true ∨ X.env.scope.names.lookup z = some .local := by first | exact .inl rfl | exact .inr rfl | assumption)
    (hn : (assignEach [.Name x px, .Name y py, .Name z pz] X.env).length = 3 := by rfl) (hf : (assignEach [.Name x px, .Name y py, .Name z pz] X.env).findIdx? (·.1) = none := by rfl) : WG X (.Tuple [.Name x px, .Name y py, .Name z pz] kt pos) (.tup [d1, d2, d3]) r G is Q :=
  wg_tup [i, j, l] hc (.cons (pg_name nd hi hx hfx) (.cons (pg_name nd hj hy hfy) (.cons (pg_name nd hk hz hfz) .nil))) (fun t ht us => by
    rcases List.mem_cons.mp ht with rfl | ht
    · rfl
    · rcases List.mem_cons.mp ht with rfl | ht
      · rfl
      · cases List.mem_singleton.mp ht; rfl) (fun k hk => by
    rcases List.mem_cons.mp hk with rfl | hk
    · exact mi
    · rcases List.mem_cons.mp hk with rfl | hk
      · exact mj
      · cases List.mem_singleton.mp hk; exact ml) rfl (fun k hk => by
    rcases List.mem_cons.mp hk with rfl | hk
    · exact li
    · rcases List.mem_cons.mp hk with rfl | hk
      · exact lj
      · cases List.mem_singleton.mp hk; exact ll) q hn hf
end
section
variable {X : Cy} {e a b c o tg kx vx : Expr} {es : List Expr} {st : Stmt} {sts rest body orelse : List Stmt} {r : Env2} {G : GD} {pos tpos apos cpos p0 p1 p2 : Pos} {D0 : EndsD}
/-- *e ahead of more arguments -/
theorem wa_star {Q : List D → Env2 → GD → Prop} (h : WE X e r G fun x r1 G1 => ∃ d zs r2, fz r1 x = some (d, r2) ∧ (d = .tup zs ∨ d = .lst zs) ∧ WA X es r2 G1 fun ds r3 G3 => Q (zs ++ ds) r3 G3)
    (hs : starEach (.Starred e p0 :: es) X.env = (true, eval e X.env) :: starEach es X.env := by rfl) : WA X (.Starred e p0 :: es) r G Q := fun F0 T F H σ lk S =>
  RunA.of (StX.pa_star peR paR hs) ((h F0 T F H σ lk S).mono fun v H1 ⟨x, r1, G1, F1, e1, S1, k1, d, zs, r2, q1, hd, q2⟩ => by
    obtain ⟨F2, e2, S2, rp⟩ := S1.fz k1 q1
    have go : ∀ p xs, RepL X.K F2 zs xs → (SqT X.K H1 p xs ∨ SqL X.K H1 p xs) → v = .ref p → ∃ p xs, v = V.ref p ∧ (SqT X.K H1 p xs ∨ SqL X.K H1 p xs) ∧ RunA X es σ H1 fun ys H2 => ∃ ds r1 G1 F1, Ex F F1 ∧ Sta X.K F0 T F1 G1 H2 r1 σ ∧ RepL X.K F1 ds (xs ++ ys) ∧ Q ds r1 G1 := fun p xs hx hsq hv =>
      ⟨p, xs, hv, hsq, (q2 F0 T F2 H1 σ lk S2).mono fun vs H3 ⟨ds, r3, G3, F3, e3, S3, k3, q3⟩ => ⟨zs ++ ds, r3, G3, F3, (e1.trans e2).trans e3, S3, (RepL.mono e3 _ _ hx).append k3, q3⟩⟩
    rcases hd with rfl | rfl
    · obtain ⟨p, xs, hv, z1, z2⟩ := rp
      exact go p xs z2 (.inl (S2.bas.fh.sqT z1)) hv
    · obtain ⟨p, xs, hv, z1, z2⟩ := rp
      exact go p xs z2 (.inr (.inl (S2.bas.fh.rd z1))) hv)
/-- max, min of a list of ints -/
theorem c_maxL {Q : Res → Prop} {ns : List Int} (hc : X.calm = true) (hn : ns ≠ []) (q : ∀ m, m ∈ ns → (∀ y ∈ ns, y ≤ m) → Q (.sh (.int m))) : CallW1 X (.builtin "max") (.lst (ns.map D.int)) Q := fun F0 T F G H r σ v S h => by
  obtain ⟨p, vs, rfl, k1, k2⟩ := h.lst S.bas.fh
  cases k2.ints
  exact ⟨_, cr_max hc, p, ns, rfl, .inl k1, List.length_pos_iff.mpr hn, fun m h1 h2 => ⟨.sh (.int m), F, Ex.refl _, S, rfl, q m h1 h2⟩⟩
/-- xs.index(k), ints -/
theorem mw_index {Q : Res → Prop} {ns : List Int} {k : Int} {j : Nat} (hj : ns[j]? = some k) (hno : ∀ m, m < j → ns[m]? ≠ some k) (q : Q (.sh (.int (j : Nat)))) : MtW X "list.index" (.lst (ns.map D.int)) (.int k) Q := fun F0 T F G H r σ v w S h hw => by
  obtain ⟨p, vs, rfl, k1, k2⟩ := h.lst S.bas.fh
  cases k2.ints
  cases hw.int
  refine ⟨_, mt_index, p, ns.map V.int, .int k, j, .int k, rfl, rfl, .inl k1, rfl, ?_, ?_, beq_self_eq_true k, fun m z' hm hz => ?_, .sh (.int (j : Nat)), F, Ex.refl _, S, rfl, q⟩
  · rw [List.all_map]; exact List.all_eq_true.mpr fun _ _ => rfl
  · rw [List.getElem?_map, hj]; rfl
  · rw [List.getElem?_map] at hz
    cases e : ns[m]? with
    | none => rw [e] at hz; cases hz
    | some n =>
      rw [e] at hz
      cases hz
      exact beq_eq_false_iff_ne.mpr fun z => hno m hm (by rw [e, z])
theorem mw_count {Q : Res → Prop} {ns : List Int} {k : Int} (q : Q (.sh (.int (ns.count k : Nat)))) : MtW X "list.count" (.lst (ns.map D.int)) (.int k) Q := fun F0 T F G H r σ v w S h hw => by
  obtain ⟨p, vs, rfl, k1, k2⟩ := h.lst S.bas.fh
  cases k2.ints
  cases hw.int
  exact ⟨_, mt_lcount, p, ns, k, rfl, rfl, .inl k1, .sh (.int (ns.count k : Nat)), F, Ex.refl _, S, rfl, q⟩
theorem we_index {Q : Res → Env2 → GD → Prop}
    (h : WE X o r G fun x r1 G1 => ∃ ds0, VwR r1 G1 x (.lst ds0) ∧ WE X e r1 G1 fun y r2 G2 => ∃ dr da, VwR r2 G2 x dr ∧ VwR r2 G2 y da ∧ MtW X "list.index" dr da fun z => Q z r2 G2)
    (hbase : attributeBase o "index" X.env (eval o X.env) = eval o X.env := by rfl)
    (hfew : ((backTo cpos (starEach [e] X.env)).all (fun x => !x.1) && (backToKw cpos (keywordEach [] X.env)).all (fun x => x.1.isSome) && decide (([e] : List Expr).length + ([] : List Keyword).length + (if ([] : List Keyword).isEmpty then 0 else 1) < 30)) = true := by rfl)
    (hline : (apos.endLine == cpos.line) = true := by rfl) (hs : starEach [e] X.env = (false, eval e X.env) :: starEach [] X.env := by rfl) (hplain : (backTo cpos (starEach [] X.env)).any (·.1) = false := by rfl) :
    WE X (.Call (.Attribute o "index" apos) [e] [] cpos) r G Q := we_r1 PySem.F.plainAttrs_list PySem.F.slot_list_index PySem.F.type_list_index h hbase hfew hline hs hplain
theorem we_count {Q : Res → Env2 → GD → Prop}
    (h : WE X o r G fun x r1 G1 => ∃ ds0, VwR r1 G1 x (.lst ds0) ∧ WE X e r1 G1 fun y r2 G2 => ∃ dr da, VwR r2 G2 x dr ∧ VwR r2 G2 y da ∧ MtW X "list.count" dr da fun z => Q z r2 G2)
    (hbase : attributeBase o "count" X.env (eval o X.env) = eval o X.env := by rfl)
    (hfew : ((backTo cpos (starEach [e] X.env)).all (fun x => !x.1) && (backToKw cpos (keywordEach [] X.env)).all (fun x => x.1.isSome) && decide (([e] : List Expr).length + ([] : List Keyword).length + (if ([] : List Keyword).isEmpty then 0 else 1) < 30)) = true := by rfl)
    (hline : (apos.endLine == cpos.line) = true := by rfl) (hs : starEach [e] X.env = (false, eval e X.env) :: starEach [] X.env := by rfl) (hplain : (backTo cpos (starEach [] X.env)).any (·.1) = false := by rfl) :
    WE X (.Call (.Attribute o "count" apos) [e] [] cpos) r G Q := we_r1 PySem.F.plainAttrs_list PySem.F.slot_list_count PySem.F.type_list_count h hbase hfew hline hs hplain
theorem we_tupR1 {Q : Res → Env2 → GD → Prop} (hc : X.calm = true) (hg : Gl X "tuple") (hm : X.mg "tuple" = none) (hg2 : Gl X "range") (hm2 : X.mg "range" = none)
    (h : WE X a r G fun x r1 G1 => ∃ n, vw r1 x = some (.int n) ∧ RgOk 0 n ∧ Q (.sh (.tup ((rgI 0 n).map D.int))) r1 G1) (na : starEach [a] X.env = (false, eval a X.env) :: starEach [] X.env := by rfl)
    (na2 : starEach [.Call (.Name "range" p1) [a] [] p2] X.env = (false, eval (.Call (.Name "range" p1) [a] [] p2) X.env) :: starEach [] X.env := by rfl) : WE X (.Call (.Name "tuple" p0) [.Call (.Name "range" p1) [a] [] p2] [] pos) r G Q := fun F0 T F H σ lk S =>
  Run.of (pe_tupRg hc hg hm (prg_1 hg2 hm2 peR na) na2) ((h F0 T F H σ lk S).mono fun v H1 ⟨x, r1, G1, F1, e1, S1, k1, n, q1, ok, q⟩ => by
    refine ⟨n, (S1.view k1 q1).int, ok, fun l hl => ?_⟩
    rw [← rgI_V]
    obtain ⟨x', F', f1, f2, f3, f4⟩ := new_tup S1 (RepL.of_ints (rgI 0 n)) hl (Q := fun z => Q z r1 G1) q
    exact ⟨x', r1, G1, F', e1.trans f1, f2, f3, f4⟩)
theorem call_lenR : CallR X (.builtin "len") (fun xs H Q => ∃ a kvs, xs = [V.ref a] ∧ Rd H a (.dK kvs) ∧ Q (.int (kvs.length : Nat)) H) := fun pins s σ H xs us Q I rv ⟨a, kvs, ex, hd, q⟩ => by
  subst ex
  obtain ⟨u, rfl, ru⟩ := rv.one
  cases (show u = Value.ref a from ru)
  exact d_len I hd fun t s' I' => ⟨.int (kvs.length : Nat), H, I', ⟨t, rfl⟩, q⟩
theorem c_lenD {Q : Res → Prop} {acc : List (Key × D)} (q : Q (.sh (.int (acc.length : Nat)))) : CallW1 X (.builtin "len") (dicD acc) Q := fun F0 T F G H r σ v S h => by
  obtain ⟨p, vs, rfl, k1, k2, k3⟩ := h.dic S.bas.fh
  have e : ((acc.map (·.1)).zip vs).length = acc.length := by
    rw [List.length_zip, List.length_map, k3.length, List.length_map, Nat.min_self]
  refine ⟨_, call_lenR, p, _, rfl, k1, .sh (.int (acc.length : Nat)), F, Ex.refl _, S, ?_, q⟩
  show V.int _ = V.int _
  rw [e]
end
abbrev LIM2 : Nat := 1000000
theorem ne_of_G {G : GD} {a b : Addr} {d : D} (h : G a = some d) (h' : G b = none) : a ≠ b := fun z => by subst z; rw [h] at h'; cases h'
theorem Sta.tbegin {K : PySem.W.Frag} {F0 T F : Hp} {G : GD} {H : Hp} {r : Env2} {σ : L2.St} (S : Sta K F0 T F G H r σ) {L : Addr} (hL : H L = none) (o : HO) (h0 : F0 L = none) : Sta K F0 (upd T L o) F G (upd H L o) r σ := by
  obtain ⟨f1, f2, f3⟩ := S.bas.freshF hL
  have Sb := S.newH (o := o) hL
  refine ⟨⟨Sb.bas.ff, fun q u hq => ?_, Sb.bas.fh, Sb.bas.gh, Sb.bas.fg, fun q u hq => ?_, fun q u hq => ?_⟩, Sb.len, fun i s hs => ?_, Sb.ap⟩
  · rw [upd_ne (ne_of_none hq f1)]; exact Sb.bas.ft q u hq
  · rw [upd_ne (ne_of_G hq f2)]; exact Sb.bas.gt q u hq
  · by_cases hq' : q = L
    · subst hq'; rw [upd_same] at hq ⊢; exact hq
    · rw [upd_ne hq'] at hq; exact Sb.bas.tk q u hq
  · have hh := Sb.sl i s hs
    cases s with
    | no => trivial
    | sh d => exact hh
    | own d =>
      obtain ⟨p, k1, k2, k3, k4, k5⟩ := hh
      have hp : p ≠ L := fun z => by subst z; exact S.freshR hL i d hs k1
      exact ⟨p, k1, k2, k3, k4, by rw [upd_ne hp]; exact k5⟩
theorem Sta.tF {K : PySem.W.Frag} {F0 T F : Hp} {G : GD} {H : Hp} {r : Env2} {σ : L2.St} {L : Addr} {o : HO} (S : Sta K F0 (upd T L o) F G H r σ) (h0 : F0 L = none) : F L = none ∧ G L = none ∧ H L = some o := by
  refine ⟨?_, ?_, S.bas.tk L o upd_same⟩
  · cases e : F L with
    | none => rfl
    | some u =>
      rcases S.bas.ft L u e with z | z
      · rw [h0] at z; cases z
      · rw [upd_same] at z; cases z
  · cases e : G L with
    | none => rfl
    | some u => have z := S.bas.gt L u e; rw [upd_same] at z; cases z
theorem Sta.tput {K : PySem.W.Frag} {F0 T F : Hp} {G : GD} {H : Hp} {r : Env2} {σ : L2.St} {L : Addr} {o : HO} (S : Sta K F0 (upd T L o) F G H r σ) (h0 : F0 L = none) (o' : HO) : Sta K F0 (upd T L o') F G (upd H L o') r σ := by
  obtain ⟨fL, gL, _⟩ := S.tF h0
  refine ⟨⟨S.bas.ff, fun q u hq => ?_, fun q u hq => ?_, fun q u hq => ?_, S.bas.fg, fun q u hq => ?_, fun q u hq => ?_⟩, S.len, fun i s hs => ?_, S.ap⟩
  · have n := ne_of_none hq fL
    have := S.bas.ft q u hq
    rw [upd_ne n] at this ⊢
    exact this
  · rw [upd_ne (ne_of_none hq fL)]; exact S.bas.fh q u hq
  · exact (S.bas.gh q u hq).mono (Ex.refl _) fun o ho => by rw [upd_ne (ne_of_G hq gL)]; exact ho
  · have n := ne_of_G hq gL
    have := S.bas.gt q u hq
    rw [upd_ne n] at this ⊢
    exact this
  · by_cases hqL : q = L
    · subst hqL; rw [upd_same] at hq ⊢; exact hq
    · rw [upd_ne hqL] at hq ⊢
      exact S.bas.tk q u (by rw [upd_ne hqL]; exact hq)
  · have hh := S.sl i s hs
    cases s with
    | no => trivial
    | sh d => exact hh
    | own d =>
      obtain ⟨p, k1, k3, k4, k5, k6⟩ := hh
      have hpL : p ≠ L := fun zz => by subst zz; rw [upd_same] at k6; cases k6
      rw [upd_ne hpL] at k6
      exact ⟨p, k1, k3.mono (Ex.refl _) (fun u hu => by rw [upd_ne hpL]; exact hu), k4, k5, by rw [upd_ne hpL]; exact k6⟩
theorem Sta.tend {K : PySem.W.Frag} {F0 T F : Hp} {G : GD} {H : Hp} {r : Env2} {σ : L2.St} {L : Addr} {o : HO} (S : Sta K F0 (upd T L o) F G H r σ) (h0 : F0 L = none) (hT : T L = none) : Sta K F0 T F G H r σ ∧ ∀ (i : Nat) (e : D), r[i]? = some (.own e) → σ[i]? ≠ some (some (.ref L)) := by
  have tsub : ∀ q u, T q = some u → upd T L o q = some u := fun q u hq => by rw [upd_ne (ne_of_none hq hT)]; exact hq
  have tdown : ∀ q, upd T L o q = none → T q = none := fun q hq => by
    cases hf : T q with
    | none => rfl
    | some u => rw [tsub q u hf] at hq; cases hq
  refine ⟨⟨⟨S.bas.ff, fun q u hq => ?_, S.bas.fh, S.bas.gh, S.bas.fg, fun q u hq => tdown q (S.bas.gt q u hq), fun q u hq => S.bas.tk q u (tsub q u hq)⟩, S.len, fun i s hs => ?_, S.ap⟩, fun i e he z => ?_⟩
  · exact (S.bas.ft q u hq).imp id (tdown q)
  · have hh := S.sl i s hs
    cases s with
    | no => trivial
    | sh d => exact hh
    | own d => obtain ⟨p, k1, k2, k3, k4, k5⟩ := hh; exact ⟨p, k1, k2, k3, k4, tdown p k5⟩
  · obtain ⟨p, k1, _, _, _, k5⟩ := S.ownS he
    rw [z] at k1; cases k1
    rw [upd_same] at k5; cases k5
/-- an exception: the number of its class, its values by name -/
structure Xm where
  n : Nat
  fs : List (Str × D)
inductive Out (α : Type) where
  | ok (a : α) | ex (x : Xm) | no
namespace Out
variable {α β σ ρ : Type}
def sat (m : Out α) (Q : α → Prop) (E : Xm → Prop) : Prop := match m with
  | .ok a => Q a
  | .ex x => E x
  | .no => False
def bind (m : Out α) (f : α → Out β) : Out β := match m with
  | .ok a => f a
  | .ex x => .ex x
  | .no => .no
/-- no exception is let out -/
def nox (m : Out α) : Out α := match m with
  | .ok a => .ok a
  | _ => .no
@[irreducible] def guard (p : Prop) [Decidable p] : Out Unit := if p then .ok () else .no
def get (o : Option α) : Out α := match o with
  | some a => .ok a
  | none => .no
theorem sat.imp {m : Out α} {Q Q' : α → Prop} {E E' : Xm → Prop} (h : m.sat Q E) (k : ∀ a, Q a → Q' a) (e : ∀ x, E x → E' x) : m.sat Q' E' := by
  cases m with
  | ok a => exact k a h
  | ex x => exact e x h
  | no => exact h
theorem sb {m : Out α} {f : α → Out β} {Q : β → Prop} {E : Xm → Prop} (h : (m.bind f).sat Q E) : m.sat (fun a => (f a).sat Q E) E := by
  cases m with
  | ok a => exact h
  | ex x => exact h
  | no => exact h
theorem nx {m : Out α} {Q : α → Prop} {E E' : Xm → Prop} (h : m.nox.sat Q E) : m.sat Q E' := by
  cases m with
  | ok a => exact h
  | ex x => exact h.elim
  | no => exact h
theorem gd {p : Prop} [Decidable p] {f : Unit → Out β} {Q : β → Prop} {E : Xm → Prop} (h : ((guard p).bind f).sat Q E) : p ∧ (f ()).sat Q E := by
  by_cases hp : p
  · unfold guard at h; rw [if_pos hp] at h; exact ⟨hp, h⟩
  · unfold guard at h; rw [if_neg hp] at h; exact h.elim
theorem gt {o : Option α} {f : α → Out β} {Q : β → Prop} {E : Xm → Prop} (h : ((get o).bind f).sat Q E) : ∃ a, o = some a ∧ (f a).sat Q E := by
  cases o with
  | none => exact h.elim
  | some a => exact ⟨a, rfl, h⟩
theorem iteb {c : Bool} {a b : Out α} {Q : α → Prop} {E : Xm → Prop} (h : (if c = true then a else b).sat Q E) : (c = true → a.sat Q E) ∧ (c = false → b.sat Q E) :=
  ⟨fun hc => by rw [if_pos hc] at h; exact h, fun hc => by rw [if_neg (by rw [hc]; exact Bool.false_ne_true)] at h; exact h⟩
@[simp] theorem bind_ok (a : α) (f : α → Out β) : (Out.ok a).bind f = f a := rfl
@[simp] theorem bind_ex (x : Xm) (f : α → Out β) : (Out.ex x : Out α).bind f = .ex x := rfl
@[simp] theorem bind_no (f : α → Out β) : (Out.no : Out α).bind f = .no := rfl
@[simp] theorem nox_ok (a : α) : (Out.ok a).nox = .ok a := rfl
@[simp] theorem get_some (a : α) : Out.get (some a) = .ok a := rfl
theorem guard_pos {p : Prop} [Decidable p] (h : p) : guard p = .ok () := by unfold guard; exact if_pos h
/-- a loop without a return -/
def fold (f : σ → α → Out σ) : List α → σ → Out σ
  | [], s => .ok s
  | x :: xs, s => (f s x).bind (fold f xs)
/-- how a block with a return ends -/
inductive Rt (σ ρ : Type) where
  | nx (s : σ) | rt (v : ρ)
/-- a loop with a return -/
def loop (f : σ → α → Out (Rt σ ρ)) : List α → σ → Out (Rt σ ρ)
  | [], s => .ok (.nx s)
  | x :: xs, s => (f s x).bind fun t => match t with
    | .nx s' => loop f xs s'
    | .rt v => .ok (.rt v)
/-- .. with a state -/
def compS (f : σ → α → Out (Option β × σ)) : List α → List β → σ → Out (List β × σ)
  | [], acc, s => .ok (acc, s)
  | x :: xs, acc, s => (f s x).bind fun p => compS f xs (match p.1 with
    | some y => acc ++ [y]
    | none => acc) p.2
end Out
open Out (Rt)
abbrev eI : Int → D := D.int
abbrev eB : Bool → D := D.bl
abbrev eU : Unit → D := fun _ => .non
abbrev eL {α : Type} (f : α → D) : List α → D := fun xs => .lst (xs.map f)
abbrev eT {α : Type} (f : α → D) : List α → D := fun xs => .tup (xs.map f)
abbrev eP {α β : Type} (f : α → D) (g : β → D) : α × β → D := fun p => .tup [f p.1, g p.2]
abbrev eP3 {α β γ : Type} (f : α → D) (g : β → D) (h : γ → D) : α × β × γ → D := fun p => .tup [f p.1, g p.2.1, h p.2.2]
abbrev eO {α : Type} (f : α → D) : Option α → D := fun o => match o with
  | none => .non
  | some a => f a
abbrev kI : Int → Key := Sum.inl
def eDl {κ ν : Type} (k : κ → Key) (f : ν → D) (kvs : List (κ × ν)) : List (Key × D) := kvs.map fun p => (k p.1, f p.2)
abbrev eD {κ ν : Type} (k : κ → Key) (f : ν → D) : List (κ × ν) → D := fun kvs => .dic (kvs.map fun p => k p.1) (kvs.map fun p => f p.2)
theorem eD_dicD {κ ν : Type} (k : κ → Key) (f : ν → D) (kvs : List (κ × ν)) : dicD (eDl k f kvs) = eD k f kvs := by
  unfold dicD eDl
  rw [List.map_map, List.map_map]; rfl
/-- the class of an exception of the mirrors -/
def xnOf (cx : Nat → Addr) (m : Xm) : Exn := ⟨.ref (cx m.n), m.fs⟩
/-- a def without draws -/
def FM (cx : Nat → Addr) {A R : Type} (en : A → List D) (er : R → Res) (f : A → Out R) : FSp := fun ds G post px => ∃ a : A, ds = en a ∧ (f a).sat (fun v => post (er v) G) (fun m => px (xnOf cx m) G)
/-- the box of draws -/
abbrev Bx := List Int × Int
def bxG (G0 : GD) (b g : Addr) (x : Bx) : GD := updG (updG G0 g (.lst (x.1.map D.int))) b (.lst [.adr g, .int x.2])
/-- a def with the box as its first argument; no exception leaves it -/
def FB {A R : Type} (en : A → List D) (er : R → Res) (f : A → Bx → Out (R × Bx)) : FSp := fun ds G post _ => ∃ (a : A) (G0 : GD) (b g : Addr) (x : Bx), g ≠ b ∧ ds = .adr b :: en a ∧ G = bxG G0 b g x ∧ (f a x).sat (fun v => post (er v.1) (bxG G0 b g v.2)) (fun _ => False)
theorem bxG_b {G0 : GD} {b g : Addr} {x : Bx} : bxG G0 b g x b = some (.lst [.adr g, .int x.2]) := updG_same
theorem bxG_g {G0 : GD} {b g : Addr} {x : Bx} (h : g ≠ b) : bxG G0 b g x g = some (.lst (x.1.map D.int)) := by unfold bxG; rw [updG_ne h, updG_same]
theorem bxG_setB {G0 : GD} {b g : Addr} {x : Bx} {st : Int} : updG (bxG G0 b g x) b (.lst [.adr g, .int st]) = bxG G0 b g (x.1, st) := by
  unfold bxG
  funext a
  by_cases h : a = b
  · subst h; rw [updG_same, updG_same]
  · rw [updG_ne h, updG_ne h, updG_ne h]
theorem bxG_setG {G0 : GD} {b g : Addr} {x : Bx} {ns : List Int} (h : g ≠ b) : updG (bxG G0 b g x) g (.lst (ns.map D.int)) = bxG G0 b g (ns, x.2) := by
  unfold bxG
  funext a
  by_cases h1 : a = g
  · subst h1; rw [updG_same, updG_ne h, updG_same]
  · rw [updG_ne h1]
    by_cases h2 : a = b
    · subst h2; rw [updG_same, updG_same]
    · rw [updG_ne h2, updG_ne h1, updG_ne h2, updG_ne h1]
section
variable {X : Cy} {e a b c o tg kx vx elt : Expr} {es ifs : List Expr} {st : Stmt} {sts rest body orelse : List Stmt} {r : Env2} {G : GD} {pos tpos apos cpos p0 : Pos} {D0 : EndsD} {α β γ σT ρ : Type}
theorem wb_env (R : Env2) (hr : r = R) (k : WB X sts R G D0) : WB X sts r G D0 := by subst hr; exact k
theorem wb_let {e : α} {f : α → Out β} {Q : β → Prop} {E : Xm → Prop} (h : ((Out.ok e).bind f).sat Q E) (R : α → Env2) (hr : r = R e) (k : ∀ x, (f x).sat Q E → WB X sts (R x) G D0) : WB X sts r G D0 := by subst hr; exact k e h
theorem WG.weak {d : D} {r' : Env2} {is : List Nat} {Q : Env2 → GD → Prop} (w : Wk r r') (h : WG X tg d r' G is Q) : WG X tg d r G is Q := fun F0 T F H σ v lk S rp => h F0 T F H σ v lk (S.weak w) rp
theorem wb_frz (i : Nat) {d : D} (hi : r[i]? = some (.own d)) (hD : isDic d = false) (h : WB X sts (r.set i (.sh d)) G D0) : WB X sts r G D0 := fun F0 T F H σ lk S pins s I => by
  obtain ⟨F', k1, k2, _⟩ := S.frzSlot hD hi
  exact h F0 T F' H σ lk k2 pins s I
theorem we_frz {Q : Res → Env2 → GD → Prop} (h : WE X e r G fun x r1 G1 => ∃ d r2, fz r1 x = some (d, r2) ∧ Q (.sh d) r2 G1) : WE X e r G Q := fun F0 T F H σ lk S =>
  (h F0 T F H σ lk S).mono fun v H1 ⟨x, r1, G1, F1, e1, S1, k1, d, r2, q1, q2⟩ => by
    obtain ⟨F2, e2, S2, rp⟩ := S1.fz k1 q1
    exact ⟨.sh d, r2, G1, F2, e1.trans e2, S2, rp, q2⟩
/-- what an end of a block with a state says -/
def AtS (env : σT → Env2) (gg : σT → GD) (Q : σT → Prop) : Env2 → GD → Prop := fun r G => ∃ s, Wk r (env s) ∧ G = gg s ∧ Q s
theorem wb_join (env : σT → Env2) (gg : σT → GD) {m : Out σT} {f : σT → Out β} {Q : β → Prop} {E : Xm → Prop} (h : (m.bind f).sat Q E)
    (hs : ∀ Q' : σT → Prop, m.sat Q' E → WS X st r G { D0 with nx := AtS env gg Q' }) (k : ∀ s, (f s).sat Q E → WB X rest (env s) (gg s) D0) : WB X (st :: rest) r G D0 :=
  wb_cut (AtS env gg fun s => (f s).sat Q E) (hs _ (Out.sb h)) fun r1 G1 ⟨s, w, hg, q⟩ => by
    subst hg
    exact (k s q).weak w
theorem drop_at {xs : List α} {k : Nat} {x : α} (hx : xs[k]? = some x) : xs.drop k = x :: xs.drop (k + 1) := by
  obtain ⟨hk, hxk⟩ := List.getElem?_eq_some_iff.mp hx
  rw [List.drop_eq_getElem_cons hk, hxk]
theorem map_at {en : α → D} {xs : List α} {k : Nat} {d : D} (hd : (xs.map en)[k]? = some d) : ∃ x, xs[k]? = some x ∧ d = en x := by
  rw [List.getElem?_map] at hd
  cases hx : xs[k]? with
  | none => rw [hx] at hd; cases hd
  | some x => rw [hx] at hd; cases hd; exact ⟨x, rfl, rfl⟩
theorem wb_forO (is : List Nat) (env : σT → Env2) (gg : σT → GD) (en : α → D) (hp : PassesOwn (model X.prog X.w) X.A X.env X.xe) (hc : X.calm = true)
    (h : WI X tg e r G fun ds r2 G1 => ∃ (xs : List α) (s0 : σT) (f : σT → α → Out σT) (kk : σT → Out β) (Q : β → Prop) (E : Xm → Prop), ds = xs.map en ∧ Wk r2 (env s0) ∧ G1 = gg s0 ∧ ((Out.fold f xs s0).bind kk).sat Q E ∧
      (∀ (s : σT) (x : α) (Q' : σT → Prop), (f s x).sat Q' E → WG X tg (en x) (env s) (gg s) is fun r4 G4 => WB X body r4 G4 { D0 with nx := AtS env gg Q', ct := AtS env gg Q', bk := fun r1 G1 => WB X rest r1 G1 D0 }) ∧
      ∀ s, (kk s).sat Q E → WB X rest (env s) (gg s) D0) (hs : ∀ x, foldedSetIterable e X.env x = pure x := by intro _; rfl) : WB X (.For tg e body [] pos :: rest) r G D0 :=
  wb_cons (ws_for (is := is) hp hc (h.mono fun ds r2 G1 ⟨xs, s0, f, kk, Q, E, hd, w0, hg, h0, hb, hn⟩ => by
    subst hd hg
    refine ⟨fun k r3 G3 => AtS env gg (fun s => ((Out.fold f (xs.drop k) s).bind kk).sat Q E) r3 G3, ⟨s0, w0, rfl, h0⟩, fun k d r3 G3 hd ⟨s, w, hg, hq⟩ => ?_, fun r3 G3 ⟨s, w, hg, hq⟩ => ?_⟩
    · subst hg
      obtain ⟨x, hx, rfl⟩ := map_at hd
      rw [drop_at hx] at hq
      have hq' : (f s x).sat (fun s' => ((Out.fold f (xs.drop (k + 1)) s').bind kk).sat Q E) E := by
        have z : (((f s x).bind (Out.fold f (xs.drop (k + 1)))).bind kk).sat Q E := hq
        cases hf : f s x with
        | ok s' => rw [hf] at z; exact z
        | ex x' => rw [hf] at z; exact z
        | no => rw [hf] at z; exact z
      exact (hb s x _ hq').weak w
    · rw [List.length_map, List.drop_length] at hq
      subst hg
      exact (hn s hq).weak w) hs)
theorem wb_forR (is : List Nat) (env : σT → Env2) (gg : σT → GD) (en : α → D) (er : ρ → Res) (gr : ρ → GD) (hp : PassesOwn (model X.prog X.w) X.A X.env X.xe) (hc : X.calm = true)
    (h : WI X tg e r G fun ds r2 G1 => ∃ (xs : List α) (s0 : σT) (f : σT → α → Out (Rt σT ρ)) (kk : Rt σT ρ → Out β) (Q : β → Prop) (E : Xm → Prop), ds = xs.map en ∧ Wk r2 (env s0) ∧ G1 = gg s0 ∧ ((Out.loop f xs s0).bind kk).sat Q E ∧
      (∀ (s : σT) (x : α) (Q' : Rt σT ρ → Prop), (f s x).sat Q' E → WG X tg (en x) (env s) (gg s) is fun r4 G4 => WB X body r4 G4 { nx := AtS env gg (fun s => Q' (.nx s)), ct := AtS env gg (fun s => Q' (.nx s)), bk := fun r1 G1 => WB X rest r1 G1 D0, rt := fun y G' => ∃ v, y = er v ∧ G' = gr v ∧ Q' (.rt v) }) ∧
      (∀ v, (kk (.rt v)).sat Q E → D0.rt (er v) (gr v)) ∧ ∀ s, (kk (.nx s)).sat Q E → WB X rest (env s) (gg s) D0) (hs : ∀ x, foldedSetIterable e X.env x = pure x := by intro _; rfl) : WB X (.For tg e body [] pos :: rest) r G D0 :=
  wb_cons (ws_for (is := is) hp hc (h.mono fun ds r2 G1 ⟨xs, s0, f, kk, Q, E, hd, w0, hg, h0, hb, hr, hn⟩ => by
    subst hd hg
    refine ⟨fun k r3 G3 => AtS env gg (fun s => ((Out.loop f (xs.drop k) s).bind kk).sat Q E) r3 G3, ⟨s0, w0, rfl, h0⟩, fun k d r3 G3 hd ⟨s, w, hg, hq⟩ => ?_, fun r3 G3 ⟨s, w, hg, hq⟩ => ?_⟩
    · subst hg
      obtain ⟨x, hx, rfl⟩ := map_at hd
      rw [drop_at hx] at hq
      have hq' : (f s x).sat (fun t => match t with
          | .nx s' => ((Out.loop f (xs.drop (k + 1)) s').bind kk).sat Q E
          | .rt v => (kk (.rt v)).sat Q E) E := by
        have z : (((f s x).bind fun t => match t with
          | .nx s' => Out.loop f (xs.drop (k + 1)) s'
          | .rt v => .ok (.rt v)).bind kk).sat Q E := hq
        cases hf : f s x with
        | ok t =>
          rw [hf] at z
          cases t with
          | nx s' => exact z
          | rt v => exact z
        | ex x' => rw [hf] at z; exact z
        | no => rw [hf] at z; exact z
      refine WG.weak w fun F0 T F H σ v lk S rp => ?_
      have q := hb s x _ hq' F0 T F H σ v lk S rp
      refine fun pins s1 u I rv => wpAny_mono (q pins s1 u I rv) (fun _ _ ⟨σ', H', I', hw, r', G', F', e', S', q'⟩ => ⟨σ', H', I', hw, r', G', F', e', S', ?_⟩) fun _ _ x => x
      refine WB.mono q' (fun _ _ z => z) (fun y G' ⟨v, hy, hG, z⟩ => ?_) (fun _ _ z => z) (fun _ _ z => z)
      subst hy hG
      exact hr v z
    · rw [List.length_map, List.drop_length] at hq
      subst hg
      exact (hn s hq).weak w) hs)
end
open Out (Rt)
section
variable {κ ν : Type} [DecidableEq κ]
def dput (kvs : List (κ × ν)) (k : κ) (v : ν) : List (κ × ν) := if (kvs.any fun p => decide (p.1 = k)) = true then kvs.map (fun p => if p.1 = k then (p.1, v) else p) else kvs ++ [(k, v)]
def dget (kvs : List (κ × ν)) (k : κ) : Option ν := (kvs.find? fun p => decide (p.1 = k)).map (·.2)
def dhas (kvs : List (κ × ν)) (k : κ) : Bool := kvs.any fun p => decide (p.1 = k)
def dmk (kvs : List (κ × ν)) : List (κ × ν) := kvs.foldl (fun acc p => dput acc p.1 p.2) []
end
/-- keys that are told apart -/
def KInj {κ : Type} (k : κ → Key) : Prop := ∀ a b, k a = k b → a = b
theorem kI_inj : KInj kI := fun _ _ h => Sum.inl.inj h
section
variable {κ ν : Type} [DecidableEq κ] {k : κ → Key} {f : ν → D}
theorem any_key (hk : KInj k) (kvs : List (κ × ν)) (x : κ) : ((eDl k f kvs).any fun kv => decide (kv.1 = k x)) = kvs.any fun p => decide (p.1 = x) := by
  unfold eDl
  rw [List.any_map]
  congr 1
  funext p
  show decide (k p.1 = k x) = decide (p.1 = x)
  by_cases h : p.1 = x
  · rw [h]; simp
  · have : ¬ k p.1 = k x := fun z => h (hk _ _ z)
    simp [h, this]
theorem putD_eDl (hk : KInj k) (kvs : List (κ × ν)) (x : κ) (v : ν) : putD (eDl k f kvs) (k x) (f v) = eDl k f (dput kvs x v) := by
  unfold putD dput
  rw [any_key hk]
  by_cases h : (kvs.any fun p => decide (p.1 = x)) = true
  · rw [if_pos h, if_pos h]
    unfold eDl
    rw [List.map_map, List.map_map]
    congr 1
    funext p
    show (if k p.1 = k x then (k p.1, f v) else (k p.1, f p.2)) = (k (if p.1 = x then (p.1, v) else p).1, f (if p.1 = x then (p.1, v) else p).2)
    by_cases hp : p.1 = x
    · rw [if_pos (by rw [hp]), if_pos hp]
    · rw [if_neg (fun z => hp (hk _ _ z)), if_neg hp]
  · rw [if_neg h, if_neg h]
    unfold eDl
    rw [List.map_append]; rfl
theorem dput_len (kvs : List (κ × ν)) (x : κ) (v : ν) : (dput kvs x v).length ≤ kvs.length + 1 := by
  unfold dput
  split
  · rw [List.length_map]; omega
  · rw [List.length_append]; exact Nat.le_refl _
end
/-- the value at a key -/
def valD (kvs : List (Key × D)) (k : Key) : Option D := (kvs.find? fun kv => decide (kv.1 = k)).map (·.2)
theorem valD_rep {K : PySem.W.Frag} {F : Hp} {k : Key} : ∀ {acc : List (Key × D)} {us : List (Key × V)}, DRep K F acc us → (valD acc k = none ∧ valV us k = none) ∨ ∃ d v, valD acc k = some d ∧ valV us k = some v ∧ Rep K F d v
  | [], us, h => by
    rw [show us = [] from h]; exact .inl ⟨rfl, rfl⟩
  | p :: acc, _, ⟨u, us', h1, h2, h3, h4⟩ => by
    subst h1
    unfold valD valV
    rw [List.find?_cons, List.find?_cons, h2]
    by_cases hk : p.1 = k
    · rw [decide_eq_true hk]
      exact .inr ⟨p.2, u.2, rfl, rfl, h3⟩
    · rw [decide_eq_false hk]
      exact valD_rep h4
theorem valD_eDl {κ ν : Type} [DecidableEq κ] {k : κ → Key} {f : ν → D} (hk : KInj k) (kvs : List (κ × ν)) (x : κ) : valD (eDl k f kvs) (k x) = (dget kvs x).map f := by
  unfold valD dget eDl
  induction kvs with
  | nil => rfl
  | cons p kvs ih =>
    rw [List.map_cons, List.find?_cons, List.find?_cons]
    show (match decide (k p.1 = k x) with | true => some (k p.1, f p.2) | false => _).map _ = _
    by_cases h : p.1 = x
    · rw [decide_eq_true (by rw [h]), decide_eq_true h]; rfl
    · rw [decide_eq_false (fun z => h (hk _ _ z)), decide_eq_false h]; exact ih
theorem dget_isSome {κ ν : Type} [DecidableEq κ] (kvs : List (κ × ν)) (x : κ) : (dget kvs x).isSome = dhas kvs x := by
  unfold dget dhas
  rw [Option.isSome_map]
  induction kvs with
  | nil => rfl
  | cons p kvs ih =>
    rw [List.find?_cons, List.any_cons]
    by_cases h : p.1 = x
    · rw [decide_eq_true h]; rfl
    · rw [decide_eq_false h, Bool.false_or]; exact ih
theorem zip_eDl {κ ν : Type} {k : κ → Key} {f : ν → D} (kvs : List (κ × ν)) : (kvs.map fun p => k p.1).zip (kvs.map fun p => f p.2) = eDl k f kvs := by
  unfold eDl
  induction kvs with
  | nil => rfl
  | cons p kvs ih => rw [List.map_cons, List.map_cons, List.map_cons, List.zip_cons_cons, ih]
section
variable {X : Cy} {e a b c o tg kx vx elt i : Expr} {es ifs : List Expr} {st : Stmt} {sts rest body orelse : List Stmt} {r : Env2} {G : GD} {pos tpos apos cpos p0 : Pos} {D0 : EndsD} {α β γ σT ρ : Type}
theorem vw_kD {K : PySem.W.Frag} {F H : Hp} {k : Key} {v : V} (h : Vw K F H (kD k) v) : v = kV k := by
  cases k with
  | inl n => exact h.int
  | inr x => exact h.str
/-- a dict that is looked at -/
theorem Vw.dics {K : PySem.W.Frag} {F H : Hp} (ex : Ex F H) {ks : List Key} {ds : List D} {v : V} (h : Vw K F H (.dic ks ds) v) : ∃ p us, v = .ref p ∧ Rd H p (.dK us) ∧ DRep K F (ks.zip ds) us := by
  obtain ⟨p, vs, rfl, k1, k2, k3⟩ := h.dic ex
  exact ⟨p, _, rfl, k1, DRep.of k2 k3⟩
def rDNin : R2 := fun y x H Q => ∃ a ov, x = .ref a ∧ DGet H a y ov ∧ Q (.bl (!ov.isSome)) H
theorem op_dnin {X : Cx} (hu : X.A.units + 1 < cLine) : OpR X (compareOp .NotIn) rDNin := fun pins s σ H y x u v Q I ry rx ⟨a, ov, ex, g, q⟩ => by
  subst ex
  cases (show v = Value.ref a from rx)
  exact d_notIn hu I g ry fun s' I' => ⟨.bl (!ov.isSome), H, I', rfl, q⟩
theorem val_some {K : PySem.W.Frag} {F : Hp} {k : Key} {acc : List (Key × D)} {us : List (Key × V)} (h : DRep K F acc us) : (valV us k).isSome = (valD acc k).isSome := by
  rcases valD_rep (k := k) h with ⟨h1, h2⟩ | ⟨d, v, h1, h2, _⟩
  · rw [h1, h2]; rfl
  · rw [h1, h2]; rfl
theorem opw_dnin {κ ν : Type} [DecidableEq κ] {k : κ → Key} {f : ν → D} {kvs : List (κ × ν)} {x : κ} {Q : Res → Prop} (hk : KInj k) (hu : X.A.units + 64 < cLine) (q : Q (.sh (.bl (!dhas kvs x)))) : OpW X (compareOp .NotIn) (kD (k x)) (eD k f kvs) Q := fun F0 T F G H r σ va vb S h1 h2 => by
  obtain ⟨p, us, rfl, z1, z2⟩ := h2.dics S.bas.fh
  rw [zip_eDl] at z2
  have hv : va = kV (k x) := vw_kD h1
  subst hv
  refine ⟨_, op_dnin (by omega), p, _, rfl, .inl ⟨us, k x, z1, rfl, rfl⟩, .sh (.bl (!dhas kvs x)), F, Ex.refl _, S, ?_, q⟩
  show V.bl _ = V.bl _
  rw [val_some z2, valD_eDl hk, Option.isSome_map, dget_isSome]
abbrev Blk (X : Cy) (scope : Scope) (P : Cy → Prop) : Prop := ∀ Y, BlkX X scope Y → P Y
/-- an item that is made: the state as it was -/
def Made (R : Env2) (G : GD) (is : List Nat) (d : D) : Res → Env2 → GD → Prop := fun z r2 G2 => ∃ r3, fz r2 z = some (d, r3) ∧ Wk (wipeD r3 is) R ∧ G2 = G
theorem WG.mono {d : D} {is : List Nat} {Q Q' : Env2 → GD → Prop} (h : WG X tg d r G is Q) (k : ∀ r G, Q r G → Q' r G) : WG X tg d r G is Q' := fun F0 T F H σ v lk S rp pins s u I rv =>
  wpAny_mono (h F0 T F H σ v lk S rp pins s u I rv) (fun _ _ ⟨σ', H', I', hw, r', G', F', e', S', q'⟩ => ⟨σ', H', I', hw, r', G', F', e', S', k _ _ q'⟩) fun _ _ x => x
/-- what is known of slots is forgotten behind an expression -/
theorem WE.wkp {Q : Res → Env2 → GD → Prop} (h : WE X e r G fun x r1 G1 => ∃ R, Wk r1 R ∧ (∀ i, x ≠ .pk i) ∧ Q x R G1) : WE X e r G Q := fun F0 T F H σ lk S =>
  (h F0 T F H σ lk S).mono fun v H1 ⟨x, r1, G1, F1, e1, S1, k1, R, w, hx, q⟩ => by
    refine ⟨x, R, G1, F1, e1, S1.weak w, ?_, q⟩
    cases x with
    | sh d => exact k1
    | pk i => exact absurd rfl (hx i)
    | fr d =>
      obtain ⟨p, z1, z2, z3, z4, z5, z6⟩ := k1
      refine ⟨p, z1, z2, z3, z4, z5, fun i e he => ?_⟩
      rcases w.get i _ he with z | z
      · cases z
      · exact z6 i e z
/-- what a comprehension asks of its turns -/
def LcPre (X : Cy) (scope : Scope) (tg e elt : Expr) (ifs : List Expr) (is : List Nat) (r : Env2) (G : GD) (Q : Res → Env2 → GD → Prop) : Prop :=
  WI X tg e r G fun ds r2 G1 => ∃ I : Nat → List D → Env2 → GD → Prop, I 0 [] (wipeD r2 is) G1 ∧ (∀ (k : Nat) (d : D) (acc : List D) (r3 : Env2) (G3 : GD), ds[k]? = some d → I k acc r3 G3 → LcTurn X scope tg elt ifs is d acc r3 G3 (I (k + 1))) ∧
      ∀ acc r3 G3, I ds.length acc r3 G3 → Q (.fr (.lst acc)) r3 G3
/-- .. its result known at R -/
def atR (Q : Res → Env2 → GD → Prop) : Res → Env2 → GD → Prop := fun x r1 G1 => ∃ R, Wk r1 R ∧ (∀ i, x ≠ .pk i) ∧ Q x R G1
theorem Wk.set {a b : Env2} (w : Wk a b) (s : Sl) : ∀ i, Wk (a.set i s) (b.set i s) := by
  induction w with
  | nil => intro i; exact .nil
  | no h ih => intro i; cases i with
    | zero => exact .eq h
    | succ i => exact .no (ih i)
  | eq h ih => intro i; cases i with
    | zero => exact .eq h
    | succ i => exact .eq (ih i)
theorem we_lcQ {scope : Scope} (own : List (Str × Nat)) {Q : Res → Env2 → GD → Prop} (hc : X.calm = true) (hN : X.N.Nodup) (ok : BlkOk X.N X.env.scope scope own) (h : LcPre X scope tg e elt ifs (own.map (·.2)) r G (atR Q)) (hs : ∀ x, foldedSetIterable e X.env x = pure x := by intro _; rfl) :
    WE X (.ListComp elt [⟨tg, e, ifs, 0⟩] scope pos) r G Q := WE.wkp (we_lc own hc hN ok h hs)
/-- y = [..] -/
theorem wb_setLcQ {scope : Scope} (own : List (Str × Nat)) (i : Nat) {y : Str} {py spos : Pos} (hc : X.calm = true) (hN : X.N.Nodup) (hy : X.N[i]? = some y) (hyl : X.env.scope.names.lookup y = some .local)
    (hsw : swapsWith (.ListComp elt [⟨tg, e, ifs, 0⟩] scope pos) (some (.Name y py)) spos.line X.env = pure true) (ok : BlkOk X.N X.env.scope scope own)
    (h : LcPre X scope tg e elt ifs (own.map (·.2)) r G (atR fun x R G1 => i < R.length ∧ ∃ R', putS R i x = some R' ∧ WB X rest R' G1 D0)) (hs : ∀ x, foldedSetIterable e X.env x = pure x := by intro _; rfl) :
    WB X (.Assign [.Name y py] (.ListComp elt [⟨tg, e, ifs, 0⟩] scope pos) spos :: rest) r G D0 :=
  wb_cons (ws_setLc own i hc hN hy hyl hsw ok (WI.mono h fun ds r2 G1 ⟨I, i0, it, ie⟩ => ⟨I, i0, it, fun acc r3 G3 q => by
    obtain ⟨R, w, _, hi, R', hR, k⟩ := ie acc r3 G3 q
    cases hR
    exact ⟨by rw [← w.len]; exact hi, _, rfl, k.weak (w.set _ i)⟩⟩) hs)
/-- [elt for tg in e], nothing that may fail -/
theorem lc0_pre {scope : Scope} (own : List (Str × Nat)) (R : Env2) {en : α → D} (ey : β → D) (g : α → β) {Q : Res → Env2 → GD → Prop}
    (h : WI X tg e r G fun ds r2 G1 => ∃ xs : List α, ds = xs.map en ∧ xs.length ≤ LIM ∧ Wk (wipeD r2 (own.map (·.2))) R ∧
      (∀ x, Blk X scope fun Y => WG Y tg (en x) R G1 (own.map (·.2)) fun r3 G3 => Blk X scope fun Y => WE Y elt r3 G3 (Made R G1 (own.map (·.2)) (ey (g x)))) ∧ Q (.fr (.lst ((xs.map g).map ey))) R G1) : LcPre X scope tg e elt [] (own.map (·.2)) r G (atR Q) :=
  h.mono fun ds r2 G1 ⟨xs, hd, hl, w, hb, q⟩ => by
    subst hd
    refine ⟨fun k acc r3 G3 => Wk r3 R ∧ G3 = G1 ∧ acc = ((xs.take k).map g).map ey, ⟨w, rfl, rfl⟩, fun k d acc r3 G3 hd ⟨w3, hG, ha⟩ => ?_, fun acc r3 G3 ⟨w3, hG, ha⟩ => ?_⟩
    · subst hG ha
      obtain ⟨x, hx, rfl⟩ := map_at hd
      have hlt : k < xs.length := (List.getElem?_eq_some_iff.mp hx).1
      intro Y hY
      refine WG.mono (WG.weak w3 (hb x Y hY)) fun r4 G4 q' Y hY => (q' Y hY).mono fun zz r5 G5 ⟨r6, m1, m2, m3⟩ => ⟨ey (g x), r6, m1, ?_, m2, m3, ?_⟩
      · rw [List.length_map, List.length_map, List.length_take]; omega
      · rw [List.take_add_one, hx, List.map_append, List.map_append]; rfl
    · subst hG ha
      rw [List.length_map, List.take_length]
      exact ⟨R, w3, (fun i z => by cases z), q⟩
/-- [elt for tg in e if c] -/
theorem filter_at {p : α → Bool} {xs : List α} {k : Nat} {x : α} (hx : xs[k]? = some x) : (xs.take (k + 1)).filter p = (xs.take k).filter p ++ (if p x = true then [x] else []) := by
  rw [List.take_add_one, hx, List.filter_append]
  congr 1
  show List.filter p [x] = _
  by_cases h : p x = true <;> simp [h]
theorem lc1_pre {scope : Scope} (own : List (Str × Nat)) (R : Env2) {en : α → D} (ey : β → D) (p : α → Bool) (g : α → β) {Q : Res → Env2 → GD → Prop}
    (h : WI X tg e r G fun ds r2 G1 => ∃ xs : List α, ds = xs.map en ∧ xs.length ≤ LIM ∧ Wk (wipeD r2 (own.map (·.2))) R ∧
      (∀ x, Blk X scope fun Y => WG Y tg (en x) R G1 (own.map (·.2)) fun r3 G3 => Blk X scope fun Y => WT Y c r3 G3 fun b r4 G4 => b = p x ∧
        (p x = true → Blk X scope fun Y => WE Y elt r4 G4 (Made R G1 (own.map (·.2)) (ey (g x)))) ∧ (p x = false → Wk (wipeD r4 (own.map (·.2))) R ∧ G4 = G1)) ∧ Q (.fr (.lst (((xs.filter p).map g).map ey))) R G1) : LcPre X scope tg e elt [c] (own.map (·.2)) r G (atR Q) :=
  h.mono fun ds r2 G1 ⟨xs, hd, hl, w, hb, q⟩ => by
    subst hd
    refine ⟨fun k acc r3 G3 => Wk r3 R ∧ G3 = G1 ∧ acc = (((xs.take k).filter p).map g).map ey, ⟨w, rfl, rfl⟩, fun k d acc r3 G3 hd ⟨w3, hG, ha⟩ => ?_, fun acc r3 G3 ⟨w3, hG, ha⟩ => ?_⟩
    · subst hG ha
      obtain ⟨x, hx, rfl⟩ := map_at hd
      have hlt : k < xs.length := (List.getElem?_eq_some_iff.mp hx).1
      intro Y hY
      refine WG.mono (WG.weak w3 (hb x Y hY)) fun r4 G4 q' Y hY => (q' Y hY).mono fun b r5 G5 ⟨hbp, q1, q2⟩ => ⟨fun hb1 Y hY => ?_, fun hb0 => ?_⟩
      · have hp : p x = true := hbp ▸ hb1
        refine (q1 hp Y hY).mono fun zz r6 G6 ⟨r7, m1, m2, m3⟩ => ⟨ey (g x), r7, m1, ?_, m2, m3, ?_⟩
        · rw [List.length_map, List.length_map]
          have h1 := List.length_filter_le p (xs.take k)
          rw [List.length_take] at h1
          omega
        · rw [filter_at hx, if_pos hp, List.map_append, List.map_append]; rfl
      · have hp : p x = false := hbp ▸ hb0
        obtain ⟨w5, hG5⟩ := q2 hp
        refine ⟨w5, hG5, ?_⟩
        rw [filter_at hx, if_neg (by rw [hp]; exact Bool.false_ne_true), List.append_nil]
    · subst hG ha
      rw [List.length_map, List.take_length]
      exact ⟨R, w3, (fun i z => by cases z), q⟩
/-- [elt for tg in e if ..], by a mirror with a state -/
theorem compS_step {f : σT → α → Out (Option β × σT)} {xs : List α} {acc : List β} {s : σT} {x : α} {kk : List β × σT → Out γ} {Q : γ → Prop} {E : Xm → Prop} (h : ((Out.compS f (x :: xs) acc s).bind kk).sat Q E) :
    (f s x).sat (fun t => ((Out.compS f xs (match t.1 with | some y => acc ++ [y] | none => acc) t.2).bind kk).sat Q E) E := by
  have z : (((f s x).bind fun t => Out.compS f xs (match t.1 with | some y => acc ++ [y] | none => acc) t.2).bind kk).sat Q E := h
  cases hf : f s x with
  | ok t => rw [hf] at z; exact z
  | ex x' => rw [hf] at z; exact z
  | no => rw [hf] at z; exact z
theorem lcS_pre {scope : Scope} (own : List (Str × Nat)) (R : Env2) (gg : σT → GD) {en : α → D} (ey : β → D) {Q : Res → Env2 → GD → Prop}
    (h : WI X tg e r G fun ds r2 G1 => ∃ (xs : List α) (s0 : σT) (f : σT → α → Out (Option β × σT)) (kk : List β × σT → Out γ) (Q0 : γ → Prop) (E : Xm → Prop), ds = xs.map en ∧ xs.length ≤ LIM ∧ Wk (wipeD r2 (own.map (·.2))) R ∧ G1 = gg s0 ∧ ((Out.compS f xs [] s0).bind kk).sat Q0 E ∧
      (∀ s x (Q' : Option β × σT → Prop), (f s x).sat Q' E → Blk X scope fun Y => WG Y tg (en x) R (gg s) (own.map (·.2)) fun r3 G3 => match ifs with
        | [] => Blk X scope fun Y => WE Y elt r3 G3 fun z r4 G4 => ∃ y s' r5, fz r4 z = some (ey y, r5) ∧ Wk (wipeD r5 (own.map (·.2))) R ∧ G4 = gg s' ∧ Q' (some y, s')
        | [c] => Blk X scope fun Y => WT Y c r3 G3 fun b r4 G4 => (b = true → Blk X scope fun Y => WE Y elt r4 G4 fun z r5 G5 => ∃ y s' r6, fz r5 z = some (ey y, r6) ∧ Wk (wipeD r6 (own.map (·.2))) R ∧ G5 = gg s' ∧ Q' (some y, s')) ∧ (b = false → ∃ s', Wk (wipeD r4 (own.map (·.2))) R ∧ G4 = gg s' ∧ Q' (none, s'))
        | _ => False) ∧ ∀ ys s', (kk (ys, s')).sat Q0 E → Q (.fr (.lst (ys.map ey))) R (gg s')) : LcPre X scope tg e elt ifs (own.map (·.2)) r G (atR Q) :=
  h.mono fun ds r2 G1 ⟨xs, s0, f, kk, Q0, E, hd, hl, w, hg, h0, hb, hq⟩ => by
    subst hd hg
    refine ⟨fun k acc r3 G3 => ∃ ys s, Wk r3 R ∧ G3 = gg s ∧ acc = ys.map ey ∧ ys.length ≤ k ∧ ((Out.compS f (xs.drop k) ys s).bind kk).sat Q0 E, ⟨[], s0, w, rfl, rfl, Nat.le_refl _, h0⟩, fun k d acc r3 G3 hd ⟨ys, s, w3, hG, ha, hly, hq3⟩ => ?_, fun acc r3 G3 ⟨ys, s, w3, hG, ha, hly, hq3⟩ => ?_⟩
    · subst hG ha
      obtain ⟨x, hx, rfl⟩ := map_at hd
      have hlt : k < xs.length := (List.getElem?_eq_some_iff.mp hx).1
      rw [drop_at hx] at hq3
      have st := hb s x _ (compS_step hq3)
      have lim : (ys.map ey).length < LIM := by rw [List.length_map]; omega
      intro Y hY
      refine WG.mono (WG.weak w3 (st Y hY)) fun r4 G4 q' => ?_
      match ifs, q' with
      | [], q' =>
        refine fun Y hY => (q' Y hY).mono fun zz r5 G5 ⟨y, s', r6, m1, m2, m3, m4⟩ => ⟨ey y, r6, m1, lim, ys ++ [y], s', m2, m3, by rw [List.map_append]; rfl, by rw [List.length_append]; exact Nat.succ_le_succ hly, m4⟩
      | [c], q' =>
        refine fun Y hY => (q' Y hY).mono fun b r5 G5 ⟨q1, q2⟩ => ⟨fun hb1 Y hY => ?_, fun hb0 => ?_⟩
        · exact (q1 hb1 Y hY).mono fun zz r6 G6 ⟨y, s', r7, m1, m2, m3, m4⟩ => ⟨ey y, r7, m1, lim, ys ++ [y], s', m2, m3, by rw [List.map_append]; rfl, by rw [List.length_append]; exact Nat.succ_le_succ hly, m4⟩
        · obtain ⟨s', m2, m3, m4⟩ := q2 hb0
          exact ⟨ys, s', m2, m3, rfl, Nat.le_succ_of_le hly, m4⟩
      | _ :: _ :: _, q' => exact q'.elim
    · subst hG ha
      rw [List.length_map, List.drop_length] at hq3
      exact ⟨R, w3, (fun i z => by cases z), hq ys s hq3⟩
end
open Out (Rt)
section
variable {κ ν : Type} [DecidableEq κ]
theorem dmk_snoc (kvs : List (κ × ν)) (p : κ × ν) : dmk (kvs ++ [p]) = dput (dmk kvs) p.1 p.2 := by unfold dmk; rw [List.foldl_append]; rfl
theorem dmk_len : ∀ (kvs : List (κ × ν)), (dmk kvs).length ≤ kvs.length := by
  have key : ∀ (kvs acc : List (κ × ν)), (kvs.foldl (fun acc p => dput acc p.1 p.2) acc).length ≤ acc.length + kvs.length := by
    intro kvs
    induction kvs with
    | nil => intro acc; exact Nat.le_refl _
    | cons p kvs ih =>
      intro acc
      rw [List.foldl_cons, List.length_cons]
      have h1 := ih (dput acc p.1 p.2)
      have h2 := dput_len acc p.1 p.2
      omega
  intro kvs
  have := key kvs []
  rw [List.length_nil, Nat.zero_add] at this
  exact this
end
section
variable {X : Cy} {e a b c o tg kx vx elt i : Expr} {es ifs : List Expr} {st : Stmt} {sts rest body orelse : List Stmt} {r : Env2} {G : GD} {pos tpos apos cpos p0 : Pos} {D0 : EndsD} {α β γ σT ρ : Type}
/-- {k: v for tg in e}, nothing that may fail -/
theorem we_dc0 {κ ν : Type} [DecidableEq κ] {scope : Scope} (own : List (Str × Nat)) (R : Env2) {en : α → D} (ek : κ → Key) (ev : ν → D) (hk : KInj ek) (g : α → κ × ν) {Q : Res → Env2 → GD → Prop} (hc : X.calm = true) (hN : X.N.Nodup) (ok : BlkOk X.N X.env.scope scope own)
    (h : WI X tg e r G fun ds r2 G1 => ∃ xs : List α, ds = xs.map en ∧ xs.length ≤ LIM ∧ Wk (wipeD r2 (own.map (·.2))) R ∧
      (∀ x, Blk X scope fun Y => WG Y tg (en x) R G1 (own.map (·.2)) fun r3 G3 => Blk X scope fun Y => WE Y kx r3 G3 fun z r4 G4 => z = .sh (kD (ek (g x).1)) ∧ Blk X scope fun Y => WE Y vx r4 G4 (Made R G1 (own.map (·.2)) (ev (g x).2))) ∧ Q (.fr (eD ek ev (dmk (xs.map g)))) R G1)
    (hs : ∀ x, foldedSetIterable e X.env x = pure x := by intro _; rfl) : WE X (.DictComp kx vx [⟨tg, e, [], 0⟩] scope pos) r G Q :=
  WE.wkp (we_dc own hc hN ok (h.mono fun ds r2 G1 ⟨xs, hd, hl, w, hb, q⟩ => by
    subst hd
    refine ⟨fun k acc r3 G3 => Wk r3 R ∧ G3 = G1 ∧ acc = eDl ek ev (dmk ((xs.take k).map g)), ⟨w, rfl, rfl⟩, fun k d acc r3 G3 hd ⟨w3, hG, ha⟩ => ?_, fun acc r3 G3 ⟨w3, hG, ha⟩ => ?_⟩
    · subst hG ha
      obtain ⟨x, hx, rfl⟩ := map_at hd
      have hlt : k < xs.length := (List.getElem?_eq_some_iff.mp hx).1
      intro Y hY
      refine WG.mono (WG.weak w3 (hb x Y hY)) fun r4 G4 q' Y hY => (q' Y hY).mono fun z r5 G5 ⟨hz, q2⟩ => ⟨ek (g x).1, hz, fun Y hY => (q2 Y hY).mono fun zz r6 G6 ⟨r7, m1, m2, m3⟩ => ⟨ev (g x).2, r7, m1, ?_, m2, m3, ?_⟩⟩
      · unfold eDl
        rw [List.length_map]
        have h1 := dmk_len ((xs.take k).map g)
        rw [List.length_map, List.length_take] at h1
        omega
      · rw [putD_eDl hk, List.take_add_one, hx, List.map_append]
        show _ = eDl ek ev (dmk (List.map g (List.take k xs) ++ [g x]))
        rw [dmk_snoc]
    · subst hG ha
      rw [List.length_map, List.take_length, eD_dicD]
      exact ⟨R, w3, (fun i z => by cases z), q⟩) hs)
theorem we_ifP {en : α → D} {va vb : α} {Q : Res → Env2 → GD → Prop} (h : WT X c r G fun d r1 G1 => (d = true → WE X a r1 G1 fun x r2 G2 => x = .sh (en va) ∧ r2 = r1 ∧ G2 = G1) ∧ (d = false → WE X b r1 G1 fun x r2 G2 => x = .sh (en vb) ∧ r2 = r1 ∧ G2 = G1) ∧ Q (.sh (en (if d = true then va else vb))) r1 G1) : WE X (.IfExp c a b pos) r G Q :=
  we_ifExp (h.mono fun d r1 G1 ⟨h1, h2, q⟩ => ⟨fun hd => (h1 hd).mono fun x r2 G2 ⟨m1, m2, m3⟩ => by subst m1 m2 m3; rw [if_pos hd] at q; exact q, fun hd => (h2 hd).mono fun x r2 G2 ⟨m1, m2, m3⟩ => by subst m1 m2 m3; rw [if_neg (by rw [hd]; exact Bool.false_ne_true)] at q; exact q⟩)
/-- a test as a value, joined -/
theorem we_andP {c2 : Bool} {Q : Res → Env2 → GD → Prop} (h : WE X a r G fun x r1 G1 => ∃ c1, x = .sh (.bl c1) ∧ (c1 = true → WE X (.BoolOp .And (b :: es) pos) r1 G1 fun y r2 G2 => y = .sh (.bl c2) ∧ r2 = r1 ∧ G2 = G1) ∧ Q (.sh (.bl (c1 && c2))) r1 G1) : WE X (.BoolOp .And (a :: b :: es) pos) r G Q :=
  we_and (h.mono fun x r1 G1 ⟨c1, hx, h1, q⟩ => ⟨c1, hx, fun hc => (h1 hc).mono fun y r2 G2 ⟨m1, m2, m3⟩ => by subst m1 m2 m3; rw [hc, Bool.true_and] at q; exact q, fun hc => by rw [hc, Bool.false_and] at q; exact q⟩)
/-- the same of tests -/
theorem WW.monoT {Q Q' : Bool → Env2 → GD → Prop} (h : WW X e r G Q) (k : ∀ x r' G', Q x r' G' → Q' x r' G') : WW X e r G Q' := fun F0 T F H σ lk S w pins s I =>
  wpAny_mono (h F0 T F H σ lk S w pins s I) (fun _ _ ⟨H', I', r', G', F', a, b, q⟩ => ⟨H', I', r', G', F', a, b, k _ _ _ q⟩) fun _ _ x => x
end
section
variable {α β γ : Type}
/-- an item by a Python index -/
def pix (xs : List α) (i : Int) : Option α := (ixN xs.length i).bind fun j => xs[j]?
theorem atD_map {f : α → D} {xs : List α} {i : Int} {x : α} (h : pix xs i = some x) : atD (xs.map f) i = some (f x) := by
  unfold pix at h
  unfold atD
  rw [List.length_map]
  cases e : ixN xs.length i with
  | none => rw [e] at h; cases h
  | some j =>
    rw [e] at h
    show (xs.map f)[j]? = some (f x)
    rw [List.getElem?_map, show xs[j]? = some x from h]; rfl
/-- a slice by Python bounds -/
def pcut (xs : List α) (lo hi : Option Int) : List α := (xs.drop (HT.sIx xs.length 0 lo)).take (HT.sIx xs.length xs.length hi - HT.sIx xs.length 0 lo)
theorem cutD_map {f : α → D} (xs : List α) (lo hi : Option Int) : cutD (xs.map f) lo hi = (pcut xs lo hi).map f := by
  unfold cutD pcut
  rw [List.length_map, List.map_take, List.map_drop]
theorem pcut_from (xs : List α) (j : Nat) : pcut xs (some (j : Int)) none = xs.drop j := by
  unfold pcut
  rw [HT.sIx_nat, HT.sIx_none]
  by_cases h : j ≤ xs.length
  · rw [Nat.min_eq_left h, List.take_of_length_le (by rw [List.length_drop]; exact Nat.le_refl _)]
  · rw [Nat.min_eq_right (by omega), List.drop_length, List.drop_eq_nil_of_le (by omega)]
    simp
/-- codes whose equality is that of the values -/
structure EqC (en : α → D) (n : Nat) : Prop where
  ok : ∀ a, okD n (en a)
  eq : ∀ a b, eqD (en a) (en b) = true ↔ a = b
theorem EqC.dec [DecidableEq α] {en : α → D} {n : Nat} (h : EqC en n) (a b : α) : eqD (en a) (en b) = decide (a = b) := by
  by_cases e : a = b
  · rw [decide_eq_true e]; exact (h.eq a b).mpr e
  · rw [decide_eq_false e]
    cases q : eqD (en a) (en b) with
    | false => rfl
    | true => exact absurd ((h.eq a b).mp q) e
theorem eqc_int : EqC eI 0 := ⟨fun _ => trivial, fun a b => by
  show PyData.eqv (.int a) (.int b) = true ↔ a = b
  exact beq_iff_eq⟩
end
open Out (Rt)
abbrev S := { x : Str // PyData.strOk x = true }
theorem eqc_bool : EqC eB 0 := ⟨fun _ => trivial, fun a b => by
  show PyData.eqv (.bool a) (.bool b) = true ↔ a = b
  exact beq_iff_eq⟩
theorem eqv_all {α : Type} {f : α → D} {n : Nat} (h : EqC f n) : ∀ xs ys : List α, PyData.eqvAll (toPs (xs.map f)) (toPs (ys.map f)) = true ↔ xs = ys
  | [], [] => by simp [toPs, PyData.eqvAll]
  | [], y :: ys => by simp [toPs, PyData.eqvAll]
  | x :: xs, [] => by simp [toPs, PyData.eqvAll]
  | x :: xs, y :: ys => by
    show (PyData.eqv (toP (f x)) (toP (f y)) && PyData.eqvAll (toPs (xs.map f)) (toPs (ys.map f))) = true ↔ _
    rw [Bool.and_eq_true, eqv_all h xs ys, show PyData.eqv (toP (f x)) (toP (f y)) = true ↔ x = y from h.eq x y, List.cons.injEq]
theorem eqc_tup {α : Type} {f : α → D} {n : Nat} (h : EqC f n) : EqC (eT f) (n + 1) := ⟨fun xs d hd => by
  obtain ⟨x, _, rfl⟩ := List.mem_map.mp hd
  exact h.ok x, fun a b => eqv_all h a b⟩
theorem eqc_lst {α : Type} {f : α → D} {n : Nat} (h : EqC f n) : EqC (eL f) (n + 1) := ⟨fun xs d hd => by
  obtain ⟨x, _, rfl⟩ := List.mem_map.mp hd
  exact h.ok x, fun a b => eqv_all h a b⟩
theorem eqc_opt {α : Type} {f : α → D} {n : Nat} (h : EqC f n) (hn : ∀ a, eqD .non (f a) = false) (hn' : ∀ a, eqD (f a) .non = false) : EqC (eO f) n := ⟨fun o => by
  cases o with
  | none => cases n <;> trivial
  | some a => exact h.ok a, fun a b => by
  cases a with
  | none =>
    cases b with
    | none => exact ⟨fun _ => rfl, fun _ => rfl⟩
    | some b =>
      show eqD .non (f b) = true ↔ _
      rw [hn b]; simp
  | some a =>
    cases b with
    | none =>
      show eqD (f a) .non = true ↔ _
      rw [hn' a]; simp
    | some b =>
      show eqD (f a) (f b) = true ↔ _
      rw [h.eq a b, Option.some.injEq]⟩
section
variable {X : Cy} {e a b c o tg kx vx elt i : Expr} {es ifs : List Expr} {st : Stmt} {sts rest body orelse : List Stmt} {r : Env2} {G : GD} {pos tpos apos cpos p0 : Pos} {D0 : EndsD} {α β γ σT ρ : Type}
theorem opw_eqC [DecidableEq α] {en : α → D} {n : Nat} (h : EqC en n) (hu : X.A.units + 64 < cLine) (x y : α) {Q : Res → Prop} (q : Q (.sh (.bl (decide (x = y))))) (hn : n ≤ 64 := by decide) : OpW X (compareOp .Eq) (en x) (en y) Q :=
  opw_eqD hu (h.ok x) (h.ok y) hn (by rw [h.dec]; exact q)
theorem opw_neC [DecidableEq α] {en : α → D} {n : Nat} (h : EqC en n) (hu : X.A.units + 64 < cLine) (x y : α) {Q : Res → Prop} (q : Q (.sh (.bl (!decide (x = y))))) (hn : n ≤ 64 := by decide) : OpW X (compareOp .NotEq) (en x) (en y) Q :=
  opw_neD hu (h.ok x) (h.ok y) hn (by rw [h.dec]; exact q)
theorem t_catT {f : α → D} (xs ys : List α) {Q : Res → Prop} (hl : xs.length + ys.length ≤ LIM) (q : Q (.sh (.tup ((xs ++ ys).map f)))) : OpW X (binaryOp .Add) (.tup (xs.map f)) (.tup (ys.map f)) Q :=
  opw_catT (by rw [List.length_map, List.length_map]; exact hl) (by rw [List.map_append] at q; exact q)
theorem t_len {f : α → D} (xs : List α) {Q : Res → Prop} (q : Q (.sh (.int (xs.length : Nat)))) : CallW1 X (.builtin "len") (.lst (xs.map f)) Q := c_len (by rw [List.length_map]; exact q)
theorem t_lenT {f : α → D} (xs : List α) {Q : Res → Prop} (q : Q (.sh (.int (xs.length : Nat)))) : CallW1 X (.builtin "len") (.tup (xs.map f)) Q := c_lenT (by rw [List.length_map]; exact q)
theorem t_lenD {κ ν : Type} {k : κ → Key} {f : ν → D} (kvs : List (κ × ν)) {Q : Res → Prop} (q : Q (.sh (.int (kvs.length : Nat)))) : CallW1 X (.builtin "len") (eD k f kvs) Q := by
  have := c_lenD (X := X) (Q := Q) (acc := eDl k f kvs) (by unfold eDl; rw [List.length_map]; exact q)
  rw [eD_dicD] at this
  exact this
theorem t_ix {f : α → D} {xs : List α} {i : Int} {x : α} {Q : Res → Prop} (h : pix xs i = some x) (q : Q (.sh (f x))) : IxW X (.lst (xs.map f)) (.int i) Q := ixw_lst (atD_map h) q
theorem t_ixT {f : α → D} {xs : List α} {i : Int} {x : α} {Q : Res → Prop} (h : pix xs i = some x) (q : Q (.sh (f x))) : IxW X (.tup (xs.map f)) (.int i) Q := ixw_tup (atD_map h) q
theorem t_sl {f : α → D} {xs : List α} {lo hi : Option Int} {Q : Res → Prop} (q : Q (.fr (.lst ((pcut xs lo hi).map f)))) : SlW X (.lst (xs.map f)) lo hi Q := slw_lst (by rw [cutD_map]; exact q)
theorem t_slT {f : α → D} {xs : List α} {lo hi : Option Int} {Q : Res → Prop} (q : Q (.sh (.tup ((pcut xs lo hi).map f)))) : SlW X (.tup (xs.map f)) lo hi Q := slw_tup (by rw [cutD_map]; exact q)
theorem we_extendT {f : α → D} {Q : Res → Env2 → GD → Prop}
    (h : WE X o r G fun x r1 G1 => ∃ i xs0, x = .pk i ∧ r1[i]? = some (.own (.lst (List.map f xs0))) ∧ WE X e r1 G1 fun y r2 G2 => ∃ zs r3 xs, fz r2 y = some (.lst (List.map f zs), r3) ∧ r3[i]? = some (.own (.lst (List.map f xs))) ∧ xs.length + zs.length ≤ LIM ∧ Q (.sh .non) (r3.set i (.own (.lst ((xs ++ zs).map f)))) G2)
    (hbase : attributeBase o "extend" X.env (eval o X.env) = eval o X.env := by rfl)
    (hfew : ((backTo cpos (starEach [e] X.env)).all (fun x => !x.1) && (backToKw cpos (keywordEach [] X.env)).all (fun x => x.1.isSome) && decide (([e] : List Expr).length + ([] : List Keyword).length + (if ([] : List Keyword).isEmpty then 0 else 1) < 30)) = true := by rfl)
    (hline : (apos.endLine == cpos.line) = true := by rfl) (hs : starEach [e] X.env = (false, eval e X.env) :: starEach [] X.env := by rfl) (hplain : (backTo cpos (starEach [] X.env)).any (·.1) = false := by rfl) :
    WE X (.Call (.Attribute o "extend" apos) [e] [] cpos) r G Q :=
  we_extend (h.mono fun x r1 G1 ⟨i, xs0, h1, h2, h3⟩ => ⟨i, _, h1, h2, h3.mono fun y r2 G2 ⟨zs, r3, xs, k1, k2, k3, k4⟩ => ⟨_, r3, _, k1, k2, by rw [List.length_map, List.length_map]; exact k3, by rw [List.map_append] at k4; exact k4⟩⟩) hbase hfew hline hs hplain
def penumF (k : Nat) : List α → List (Int × α)
  | [] => []
  | x :: xs => ((k : Int), x) :: penumF (k + 1) xs
/-- enumerate -/
def penum (xs : List α) : List (Int × α) := penumF 0 xs
theorem enum_map {f : α → D} : ∀ (xs : List α) (k : Nat), enumD k (xs.map f) = (penumF k xs).map (eP eI f)
  | [], k => rfl
  | x :: xs, k => by
    rw [List.map_cons]
    show D.tup [.int (k : Int), f x] :: enumD (k + 1) (xs.map f) = _
    rw [enum_map xs (k + 1)]; rfl
theorem penumF_len : ∀ (xs : List α) (k : Nat), (penumF k xs).length = xs.length
  | [], _ => rfl
  | x :: xs, k => by unfold penumF; rw [List.length_cons, List.length_cons, penumF_len xs]
section
variable {elts : List Expr} {kk : Nat}
theorem ti_lst {f : α → D} {Q : List D → Env2 → GD → Prop} (h : WE X e r G fun x r1 G1 => ∃ xs r2, fz r1 x = some (.lst (List.map f xs), r2) ∧ (xs.length ≤ LIM → Q (xs.map f) r2 G1)) : WI X tg e r G Q :=
  wi_lst (h.mono fun x r1 G1 ⟨xs, r2, h1, h2⟩ => ⟨_, r2, h1, fun hl => h2 (by rw [List.length_map] at hl; exact hl)⟩)
theorem ti_tup {f : α → D} {Q : List D → Env2 → GD → Prop} (h : WE X e r G fun x r1 G1 => ∃ xs r2, fz r1 x = some (.tup (List.map f xs), r2) ∧ (xs.length ≤ LIM → Q (xs.map f) r2 G1)) : WI X tg e r G Q :=
  wi_tup (h.mono fun x r1 G1 ⟨xs, r2, h1, h2⟩ => ⟨_, r2, h1, fun hl => h2 (by rw [List.length_map] at hl; exact hl)⟩)
theorem ti_enumL {f : α → D} {Q : List D → Env2 → GD → Prop} (hg : Gl X "enumerate") (hm : X.mg "enumerate" = none) (h : WE X a r G fun x r1 G1 => ∃ xs r2, fz r1 x = some (.lst (List.map f xs), r2) ∧ ((penum xs).length ≤ LIM → Q ((penum xs).map (eP eI f)) r2 G1)) (hst : starEach [a] X.env = [(false, eval a X.env)] := by rfl) :
    WI X (.Tuple elts kk tpos) (.Call (.Name "enumerate" p0) [a] [] pos) r G Q :=
  wi_enumL hg hm (h.mono fun x r1 G1 ⟨xs, r2, h1, h2⟩ => ⟨_, r2, h1, fun hl => by rw [enum_map]; exact h2 (by unfold penum; rw [penumF_len]; rw [List.length_map] at hl; exact hl)⟩) hst
theorem ti_enumT {f : α → D} {Q : List D → Env2 → GD → Prop} (hg : Gl X "enumerate") (hm : X.mg "enumerate" = none) (h : WE X a r G fun x r1 G1 => ∃ xs r2, fz r1 x = some (.tup (List.map f xs), r2) ∧ ((penum xs).length ≤ LIM → Q ((penum xs).map (eP eI f)) r2 G1)) (hst : starEach [a] X.env = [(false, eval a X.env)] := by rfl) :
    WI X (.Tuple elts kk tpos) (.Call (.Name "enumerate" p0) [a] [] pos) r G Q :=
  wi_enumT hg hm (h.mono fun x r1 G1 ⟨xs, r2, h1, h2⟩ => ⟨_, r2, h1, fun hl => by rw [enum_map]; exact h2 (by unfold penum; rw [penumF_len]; rw [List.length_map] at hl; exact hl)⟩) hst
theorem ti_revL {f : α → D} {Q : List D → Env2 → GD → Prop} (hg : Gl X "reversed") (hm : X.mg "reversed" = none) (h : WE X a r G fun x r1 G1 => ∃ xs r2, fz r1 x = some (.lst (List.map f xs), r2) ∧ (xs.reverse.length ≤ LIM → Q (xs.reverse.map f) r2 G1)) (hst : starEach [a] X.env = (false, eval a X.env) :: starEach [] X.env := by rfl) :
    WI X tg (.Call (.Name "reversed" p0) [a] [] pos) r G Q :=
  wi_revL hg hm (h.mono fun x r1 G1 ⟨xs, r2, h1, h2⟩ => ⟨_, r2, h1, fun hl => by rw [← List.map_reverse]; exact h2 (by rw [List.length_reverse]; rw [List.length_map] at hl; exact hl)⟩) hst
end
/-- max, min of a list of ints -/
def maxI : List Int → Option Int
  | [] => none
  | x :: xs => some (xs.foldl (fun a b => if a < b then b else a) x)
theorem fold_max : ∀ (xs : List Int) (x : Int), (xs.foldl (fun a b => if a < b then b else a) x ∈ x :: xs) ∧ ∀ y ∈ x :: xs, y ≤ xs.foldl (fun a b => if a < b then b else a) x
  | [], x => ⟨List.mem_cons_self, fun y hy => by cases List.mem_singleton.mp hy; exact Int.le_refl _⟩
  | z :: xs, x => by
    rw [List.foldl_cons]
    by_cases hxz : x < z
    · rw [if_pos hxz]
      obtain ⟨h1, h2⟩ := fold_max xs z
      have h3 := h2 _ List.mem_cons_self
      refine ⟨List.mem_cons_of_mem _ h1, fun y hy => ?_⟩
      rcases List.mem_cons.mp hy with rfl | hy
      · omega
      · exact h2 y hy
    · rw [if_neg hxz]
      obtain ⟨h1, h2⟩ := fold_max xs x
      have h3 := h2 _ List.mem_cons_self
      refine ⟨?_, fun y hy => ?_⟩
      · rcases List.mem_cons.mp h1 with h | h
        · rw [h]; exact List.mem_cons_self
        · exact List.mem_cons_of_mem _ (List.mem_cons_of_mem _ h)
      · rcases List.mem_cons.mp hy with rfl | hy
        · exact h3
        · rcases List.mem_cons.mp hy with rfl | hy
          · omega
          · exact h2 y (List.mem_cons_of_mem _ hy)
theorem maxI_spec {xs : List Int} {m : Int} (h : maxI xs = some m) : m ∈ xs ∧ ∀ y ∈ xs, y ≤ m := by
  cases xs with
  | nil => cases h
  | cons x xs => cases h; exact fold_max xs x
theorem t_max {Q : Res → Prop} {ns : List Int} {m : Int} (hc : X.calm = true) (h : maxI ns = some m) (q : Q (.sh (.int m))) : CallW1 X (.builtin "max") (.lst (ns.map D.int)) Q :=
  c_maxL hc (fun z => by subst z; cases h) fun m' h1 h2 => by
    obtain ⟨k1, k2⟩ := maxI_spec h
    rw [show m' = m from Int.le_antisymm (k2 _ h1) (h2 _ k1)]; exact q
/-- the first place of a number -/
def idxI (k : Int) : List Int → Option Nat
  | [] => none
  | x :: xs => if x = k then some 0 else (idxI k xs).map (· + 1)
theorem idxI_spec {k : Int} : ∀ {xs : List Int} {j : Nat}, idxI k xs = some j → xs[j]? = some k ∧ ∀ m, m < j → xs[m]? ≠ some k
  | [], j, h => by cases h
  | x :: xs, j, h => by
    unfold idxI at h
    by_cases hx : x = k
    · rw [if_pos hx] at h; cases h
      exact ⟨by rw [hx]; rfl, fun m hm => absurd hm (Nat.not_lt_zero m)⟩
    · rw [if_neg hx] at h
      cases hi : idxI k xs with
      | none => rw [hi] at h; cases h
      | some j' =>
        rw [hi] at h; cases h
        obtain ⟨h1, h2⟩ := idxI_spec hi
        refine ⟨by rw [List.getElem?_cons_succ]; exact h1, fun m hm => ?_⟩
        cases m with
        | zero => intro z; simp at z; exact hx z
        | succ m => rw [List.getElem?_cons_succ]; exact h2 m (by have hm2 : m + 1 < j' + 1 := hm; omega)
theorem t_index {Q : Res → Prop} {ns : List Int} {k : Int} {j : Nat} (h : idxI k ns = some j) (q : Q (.sh (.int (j : Nat)))) : MtW X "list.index" (.lst (ns.map D.int)) (.int k) Q := mw_index (idxI_spec h).1 (idxI_spec h).2 q
/-- sorted(d), the keys ints -/
theorem t_sortedD {ν : Type} {f : ν → D} {Q : Res → Prop} (kvs : List (Int × ν)) (hcalm : X.calm = true) (q : Q (.fr (.lst ((isort (kvs.map (·.1))).map D.int)))) : CallW1 X (.builtin "sorted") (eD kI f kvs) Q := by
  have := c_sortedD (X := X) (ks := kvs.map (·.1)) (ds := kvs.map fun p => f p.2) hcalm q
  rw [List.map_map] at this
  exact this
end
open Out (Rt)
/-- a text of the mirrors -/
abbrev zs (x : Str) (h : PyData.strOk x = true := by decide) : S := ⟨x, h⟩
section
variable {X : Cy} {e a b c o tg kx vx elt i : Expr} {es ifs : List Expr} {st : Stmt} {sts rest body orelse : List Stmt} {r : Env2} {G : GD} {pos tpos apos cpos p0 : Pos} {D0 : EndsD} {α β γ σT ρ : Type}
/-- [elt for tg in e if ..], by a mirror with a state -/
theorem lcS_preP {scope : Scope} (own : List (Str × Nat)) (R : Env2) (gg : σT → GD) {en : α → D} (ey : β → D) {Q : Res → Env2 → GD → Prop}
    (h : WI X tg e r G fun ds r2 G1 => ∃ (xs : List α) (s0 : σT) (f : σT → α → Out (Option β × σT)) (kk : List β × σT → Out γ) (Q0 : γ → Prop) (E : Xm → Prop), ds = xs.map en ∧ xs.length ≤ LIM ∧ Wk (wipeD r2 (own.map (·.2))) R ∧ G1 = gg s0 ∧ ((Out.compS f xs [] s0).bind kk).sat Q0 E ∧
      (∀ s x (Q' : Option β × σT → Prop), (f s x).sat Q' E → Blk X scope fun Y => WG Y tg (en x) R (gg s) (own.map (·.2)) fun r3 G3 => match ifs with
        | [] => Blk X scope fun Y => WE Y elt r3 G3 fun z r4 G4 => ∃ y s' r5, fz r4 z = some (ey y, r5) ∧ Wk (wipeD r5 (own.map (·.2))) R ∧ G4 = gg s' ∧ Q' (some y, s')
        | [c] => Blk X scope fun Y => WT Y c r3 G3 fun b r4 G4 => (b = true → Blk X scope fun Y => WE Y elt r4 G4 fun z r5 G5 => ∃ y s' r6, fz r5 z = some (ey y, r6) ∧ Wk (wipeD r6 (own.map (·.2))) R ∧ G5 = gg s' ∧ Q' (some y, s')) ∧ (b = false → ∃ s', Wk (wipeD r4 (own.map (·.2))) R ∧ G4 = gg s' ∧ Q' (none, s'))
        | _ => False) ∧ ∀ p : List β × σT, (kk p).sat Q0 E → Q (.fr (.lst (p.1.map ey))) R (gg p.2)) : LcPre X scope tg e elt ifs (own.map (·.2)) r G (atR Q) :=
  lcS_pre own R gg ey (h.mono fun ds r2 G1 ⟨xs, s0, f, kk, Q0, E, h1, h2, h3, h4, h5, h6, h7⟩ => ⟨xs, s0, f, kk, Q0, E, h1, h2, h3, h4, h5, h6, fun ys s' q => h7 (ys, s') q⟩)
/-- dict(pairs) -/
theorem fold_putD {κ ν : Type} [DecidableEq κ] {k : κ → Key} {f : ν → D} (hk : KInj k) : ∀ (xs acc : List (κ × ν)), (eDl k f xs).foldl (fun acc kv => putD acc kv.1 kv.2) (eDl k f acc) = eDl k f (xs.foldl (fun acc p => dput acc p.1 p.2) acc)
  | [], _ => rfl
  | x :: xs, acc => by
    show (eDl k f xs).foldl _ (putD (eDl k f acc) (k x.1) (f x.2)) = _
    rw [putD_eDl hk, fold_putD hk xs]; rfl
/-- what is not None -/
theorem we_some {f : α → D} {Q : Res → Env2 → GD → Prop} (h : WE X e r G fun z r1 G1 => ∃ (x : Option α) (y : α), z = .sh (eO f x) ∧ x = some y ∧ Q (.sh (f y)) r1 G1) : WE X e r G Q :=
  h.mono fun z r1 G1 ⟨x, y, h1, h2, q⟩ => by subst h1 h2; exact q
theorem t_isN {f : α → D} (hf : ∀ a, isNon (f a) = false) {x : Option α} {Q : Res → Prop} (q : Q (.sh (.bl x.isNone))) : OpW X (compareOp .Is) (eO f x) .non Q := by
  refine opw_isN ?_
  have : isNon (eO f x) = x.isNone := by
    cases x with
    | none => rfl
    | some a => exact hf a
  rw [this]; exact q
theorem t_notN {f : α → D} (hf : ∀ a, isNon (f a) = false) {x : Option α} {Q : Res → Prop} (q : Q (.sh (.bl (!x.isNone)))) : OpW X (compareOp .IsNot) (eO f x) .non Q := by
  refine opw_notN ?_
  have : isNon (eO f x) = x.isNone := by
    cases x with
    | none => rfl
    | some a => exact hf a
  rw [this]; exact q
/-- in, of items of any depth -/
theorem any_eq [DecidableEq α] {en : α → D} {n : Nat} (h : EqC en n) (x : α) : ∀ xs : List α, ((toPs (xs.map en)).any fun z => PyData.eqv z (toP (en x))) = decide (x ∈ xs)
  | [] => rfl
  | y :: xs => by
    show (PyData.eqv (toP (en y)) (toP (en x)) || (toPs (xs.map en)).any _) = _
    rw [any_eq h x xs]
    have e := h.dec y x
    unfold eqD at e
    rw [e]
    by_cases hy : x = y
    · subst hy; simp
    · rw [decide_eq_false (fun z => hy z.symm), Bool.false_or]
      simp [hy]
theorem t_ninD [DecidableEq α] {en : α → D} {n : Nat} (h : EqC en n) (hu : X.A.units + 65 < cLine) (x : α) (xs : List α) {Q : Res → Prop} (q : Q (.sh (.bl (!decide (x ∈ xs))))) (hn : n + 1 ≤ 64 := by decide) : OpW X (compareOp .NotIn) (en x) (.lst (xs.map en)) Q := by
  have h2 := eqc_lst h
  refine opw_flat (d := .bl (!decide (x ∈ xs))) (v := .bl (!decide (x ∈ xs))) (fun _ _ => rfl) (fun F H va vb ex h1 h3 => ?_) q
  exact ⟨_, op_notInD hu, fun P p => ⟨toP (en x), toPs (xs.map en), okD.dp ex _ _ _ (h.ok x) h1, okD.dp ex _ _ _ (h2.ok xs) h3, okD.shaped (h.ok x) (by omega), okD.shaped (h2.ok xs) hn, by rw [any_eq h]; exact p⟩⟩
end
open Out (Rt)
abbrev Tin (G : GD) (H : Hp) (x dx : Addr) : Hp := fun a => if a = x ∨ a = dx then none else Tof G H a
theorem Bas.tin {K : PySem.W.Frag} {F F' H H' : Hp} {G G' : GD} {x dx : Addr} (B : Bas K F (Tof G H) F' G' H') : Bas K F (Tin G H x dx) F' G' H' := by
  refine ⟨B.ff, fun a o h => ?_, B.fh, B.gh, B.fg, fun a o h => ?_, fun a o h => ?_⟩
  · rcases B.ft a o h with z | z
    · exact .inl z
    · right; show (if _ then _ else _) = _; split
      · rfl
      · exact z
  · show (if _ then _ else _) = _
    split
    · rfl
    · exact B.gt a o h
  · have h' : (if a = x ∨ a = dx then none else Tof G H a) = some o := h
    split at h'
    · cases h'
    · exact B.tk a o h'
theorem init_frame {K : PySem.W.Frag} {F H F' H' H2 : Hp} {G G' : GD} {x dx C : Addr} {vs : List (Option V)} (B : Bas K F (Tof G H) F' G' H') (fx : F x = none) (fd : F dx = none) (gx : G x = none) (gd : G dx = none) (hx : H x = some (.ins C dx [])) (hd : H dx = some (.own x)) (hne : dx ≠ x) (e2 : H2 = SlX.slH H' x C dx vs) :
    ∃ F2, Ex F' F2 ∧ Bas K F (Tin G H x dx) F2 G' H2 ∧ SlX.Slt F2 x C dx vs := by
  have tx : Tof G H x = some (.ins C dx []) := by rw [Tof_none gx]; exact hx
  have td : Tof G H dx = some (.own x) := by rw [Tof_none gd]; exact hd
  have fx' : F' x = none := by
    cases e : F' x with
    | none => rfl
    | some u =>
      rcases B.ft x u e with z | z
      · rw [fx] at z; cases z
      · rw [tx] at z; cases z
  have fd' : F' dx = none := by
    cases e : F' dx with
    | none => rfl
    | some u =>
      rcases B.ft dx u e with z | z
      · rw [fd] at z; cases z
      · rw [td] at z; cases z
  have gx' : G' x = none := by
    cases e : G' x with
    | none => rfl
    | some u => have := B.gt x u e; rw [tx] at this; cases this
  have gd' : G' dx = none := by
    cases e : G' dx with
    | none => rfl
    | some u => have := B.gt dx u e; rw [td] at this; cases this
  have h2 : ∀ a, a ≠ x → a ≠ dx → H2 a = H' a := fun a h1 h2 => by rw [e2]; exact SlX.slH_ne h1 h2
  have ef : Ex F' (SlX.slH F' x C dx vs) := fun a o h => by rw [SlX.slH_ne (ne_of_none h fx') (ne_of_none h fd')]; exact h
  have ng : ∀ {a : Addr} {o : D}, G' a = some o → a ≠ x ∧ a ≠ dx := fun {a o} h => ⟨fun z => (by rw [z, gx'] at h; cases h), fun z => (by rw [z, gd'] at h; cases h)⟩
  refine ⟨SlX.slH F' x C dx vs, ef, ⟨fun a o h => ef a o (B.ff a o h), fun a o h => ?_, fun a o h => ?_, fun a o h => ?_, fun a o h => ?_, fun a o h => ?_, fun a o h => ?_⟩, SlX.slH_slt hne⟩
  · by_cases h1 : a = x
    · right; show (if _ then _ else _) = _; rw [if_pos (.inl h1)]
    · by_cases h2 : a = dx
      · right; show (if _ then _ else _) = _; rw [if_pos (.inr h2)]
      · rw [SlX.slH_ne h1 h2] at h
        rcases B.ft a o h with z | z
        · exact .inl z
        · right; show (if _ then _ else _) = _; rw [if_neg (by simp [h1, h2])]; exact z
  · by_cases h1 : a = x
    · subst h1; rw [e2]; unfold SlX.slH at h ⊢; rw [upd_same] at h ⊢; exact h
    · by_cases h3 : a = dx
      · subst h3; rw [e2]; unfold SlX.slH at h ⊢; rw [upd_ne h1, upd_same] at h ⊢; exact h
      · rw [SlX.slH_ne h1 h3] at h; rw [h2 a h1 h3]; exact B.fh a o h
  · obtain ⟨n1, n2⟩ := ng h
    exact (B.gh a o h).mono ef fun o q => by rw [h2 a n1 n2]; exact q
  · obtain ⟨n1, n2⟩ := ng h
    rw [SlX.slH_ne n1 n2]; exact B.fg a o h
  · show (if _ then _ else _) = _
    split
    · rfl
    · exact B.gt a o h
  · have h' : (if a = x ∨ a = dx then none else Tof G H a) = some o := h
    by_cases h1 : a = x ∨ a = dx
    · rw [if_pos h1] at h'; cases h'
    · rw [if_neg h1] at h'
      rw [h2 a (fun z => h1 (.inl z)) (fun z => h1 (.inr z))]; exact B.tk a o h'
section
variable {P : Program} {w : World} {K : PySem.W.Frag} {mg : Str → Option Value} {base : Heap}
/-- .. two slots, stored from names at the end: the second slot first -/
theorem init2r_ok {x qual : Str} {st : Stmt} {g : Addr} {fd : FuncData} {N ps : List Str} {k : Nat} {C q0 q1 : Addr} {f0 f1 : Str} {f : FSpI} (Fo : Fun K x qual st g fd) (S : FnScope N ps (defScope st)) (c : SlX.SCls K C) (t0 : SlX.Slot1 K C f0 q0 1) (t1 : SlX.Slot1 K C f1 q1 0)
    (len : ∀ ds G post px, f ds G post px → ds.length + 1 = ps.length)
    (pre : List Stmt) (s0 s1 : Stmt) (i0 i1 : Nat) (hb : defBody st = pre ++ [s0, s1])
    (hbody : ∀ (cdv : Value) (A : Around) (outer : List Env) (s : Shared) (H : Hp) (E : XK) (F T : Hp), Room k (A.deeper (envOfC qual (defScope st) s.heap.objs.size g cdv)) → ∀ (px : Exn → GD → Prop),
      PS (cyOf P w K mg base N qual (defScope st) g cdv A outer s H E F T px).toCx s0 (SlX.sSl K (tVar 0) (tVar i0) f0) ∧ PS (cyOf P w K mg base N qual (defScope st) g cdv A outer s H E F T px).toCx s1 (SlX.sSl K (tVar 0) (tVar i1) f1) ∧
      ∀ (a : Addr) (ds : List D) (G : GD) (post : List D → GD → Prop), f ds G post px → (cyOf P w K mg base N qual (defScope st) g cdv A outer s H E F T px).Tk → PassesOwn (model P w) (cyOf P w K mg base N qual (defScope st) g cdv A outer s H E F T px).A (cyOf P w K mg base N qual (defScope st) g cdv A outer s H E F T px).env (cyOf P w K mg base N qual (defScope st) g cdv A outer s H E F T px).xe →
      WB (cyOf P w K mg base N qual (defScope st) g cdv A outer s H E F T px) pre (startD N (.adr a :: ds)) G { nx := fun r G' => r[0]? = some (Sl.sh (.adr a)) ∧ ∃ d0 d1, r[i0]? = some (Sl.sh d0) ∧ r[i1]? = some (Sl.sh d1) ∧ post [d1, d0] G', rt := fun _ _ => False }) :
    FnOk P w K mg base (L2.CX P w) (k + 1) g fd ps (spI K C f) := by
  refine Fo.okX S (fun vs H Q E h => ?_) (fun cdv A outer s H vs Q E hr h => ?_)
  · obtain ⟨a, dx, us, F, G, ds, post, px, rfl, _, _, _, _, _, _, _, _, _, _, rp, hf, _⟩ := h
    rw [List.length_cons, rp.length]; exact len ds G post px hf
  · obtain ⟨a, dx, us, F, G, ds, post, px, rfl, hx, hd, hne, fx, fdx, gx, gdx, e1, e2, e3, rp, hf, hq, hxn⟩ := h
    refine ⟨RunB _ (defBody st), pbR, ?_⟩
    obtain ⟨p0, p1, hW⟩ := hbody cdv A outer s H E F (Tof G H) hr px
    have hl : (D.adr a :: ds).length ≤ N.length := by
      rw [List.length_cons, len ds G post px hf]
      have := congrArg List.length S.pre
      rw [List.length_take] at this
      omega
    rw [hb]
    have S0 := sta_start (N := N) (ds := .adr a :: ds) (vs := .ref a :: us) hl e1 e2 e3 ⟨_, _, rfl, rfl, rp⟩
    have tk : (cyOf P w K mg base N qual (defScope st) g cdv A outer s H E F (Tof G H) px).Tk := (takes_of (E := E) rfl rfl rfl rfl).imp fun cls d σ H' ⟨r, G', F', x, S', ex, q⟩ => hxn x cls d G' H' F' q S'.bas.tin ex
    have go := hW a ds G post hf tk (passes_of rfl) F (Tof G H) F H (L2.start N (.ref a :: us)) ⟨Ex.refl _, Ex.refl _, fun _ _ z => .inl z⟩ S0
    refine runB_then (X := cyOf P w K mg base N qual (defScope st) g cdv A outer s H E F (Tof G H) px) (go.mono (fun σ' H' ⟨r', G', F', S', h0, d0, d1, h1, h2, hy⟩ => ?_) (fun v H' ⟨x, G', F', B, rt, q⟩ => q.elim) (fun _ _ ⟨_, _, _, _, q⟩ => q) (fun _ _ ⟨_, _, _, _, q⟩ => q))
    obtain ⟨va, a1, a2⟩ := S'.sl 0 _ h0
    obtain ⟨v0, b1, b2⟩ := S'.sl i0 _ h1
    obtain ⟨v1, c1, c2⟩ := S'.sl i1 _ h2
    cases (show va = .ref a from a2)
    have tx : H' a = some (.ins C dx []) := S'.bas.tk a _ (by rw [Tof_none gx]; exact hx)
    have hs0 : SlX.Slt H' a C dx [] := .inl ⟨tx, rfl⟩
    have two : SlX.putS 0 v1 (SlX.putS 1 v0 []) = [some v1, some v0] := rfl
    refine RunB.of (pss_cons p0 (pss_cons p1 pss_nil)) ⟨v0, b1, .ref a, a1, a, C, dx, q0, [], 1, rfl, hs0, c, t0, v1, c1, .ref a, a1, a, C, dx, q1, _, 0, rfl, SlX.slH_slt hne, c, t1, ?_⟩
    rw [SlX.slH_twice hne, two]
    obtain ⟨F2, f1, f2, f3⟩ := init_frame (vs := [some v1, some v0]) S'.bas fx fdx gx gdx hx hd hne rfl
    exact hq _ G' _ F2 hy f2 ⟨a, dx, [v1, v0], rfl, f3, v1, [v0], rfl, Rep.mono f1 _ _ c2, .one (Rep.mono f1 _ _ b2)⟩
end
/-- the promise of a class's making by a mirror -/
def FMI (cx : Nat → Addr) {A R : Type} (en : A → List D) (es : R → List D) (f : A → Out R) : FSpI := fun ds G post px => ∃ a : A, ds = en a ∧ (f a).sat (fun v => post (es v) G) (fun m => px (xnOf cx m) G)
theorem kit_same {K : PySem.W.Frag} {t : Value} (h : (t == t) = true) : PySem.W.kitOne K t t = some true := if_pos h
open Out (Rt)
structure Rul where
  error : Int
  marks : List Int
deriving DecidableEq, Inhabited
abbrev eRul (C : Addr) : Rul → D := fun r => .ins C [.int r.error, .tup (r.marks.map D.int)]
structure Cl_Ruler (K : PySem.W.Frag) (C : Addr) : Prop where
  cls : SlX.SCls K C
  isi : SlX.SIsi K C
  s0 : ∃ p, SlX.Slot1 K C "own_error" p 0
  s1 : ∃ p, SlX.Slot1 K C "own_marks" p 1
  same : PySem.W.kitOne K (.ref C) (.ref C) = some true
  nf : PySem.W.notFirst K C (.ref C) = true
open Out (Rt)
namespace RBS
open PySem PyProof.Rows SrtO Srt
def IsPairS (h : Heap) (v : Value) (x : Str) (y : Int) : Prop := ∃ a o t u n, v = .ref a ∧ h.get? a = some o ∧ o.cls = .type "tuple" ∧ o.data = .seq #[.str x t, .int y u] n
theorem IsPairS.keeps {h h' : Heap} {v : Value} {x : Str} {y : Int} (p : IsPairS h v x y) (k : ∀ b o, h.get? b = some o → o.cls = .type "tuple" → h'.get? b = some o) : IsPairS h' v x y := by
  obtain ⟨a, o, t, u, n, e, ho, hc, hd⟩ := p
  exact ⟨a, o, t, u, n, e, k _ _ ho hc, hc, hd⟩
end RBS
open Out (Rt)
open Out (Rt)
section
variable {X : Cy} {e a b c o tg kx vx elt i : Expr} {es ifs : List Expr} {st : Stmt} {sts rest body orelse : List Stmt} {r : Env2} {G : GD} {pos tpos apos cpos p0 : Pos} {D0 : EndsD} {α β γ σT ρ : Type}
def WPr (X : Cy) : List Expr → List Expr → Env2 → GD → (List (Key × D) → Env2 → GD → Prop) → Prop
  | k :: ks, v :: vs, r, G, Q => WE X k r G fun x r1 G1 => ∃ key, x = .sh (kD key) ∧ WE X v r1 G1 fun y r2 G2 => ∃ d r3, fz r2 y = some (d, r3) ∧ WPr X ks vs r3 G2 fun ps r4 G4 => Q ((key, d) :: ps) r4 G4
  | _, _, r, G, Q => Q [] r G
def prs (X : Cy) : List Expr → List Expr → List (TE × TE)
  | k :: ks, v :: vs => (Run X k, Run X v) :: prs X ks vs
  | _, _ => []
theorem prs_ok : ∀ (ks vs : List Expr), ks.length = vs.length → PPs X.toCx pos (ks.map some) vs (prs X ks vs)
  | [], [], _ => pps_nil
  | k :: ks, v :: vs, h => pps_cons peR peR (prs_ok ks vs (by simpa using h))
  | [], _ :: _, h => by simp at h
  | _ :: _, [], h => by simp at h
theorem prs_mono {σ : L2.St} : ∀ (ks vs : List Expr) {H : Hp} {Q Q' : List (V × V) → Hp → Prop}, tPairs (prs X ks vs) σ H Q → (∀ ps H', Q ps H' → Q' ps H') → tPairs (prs X ks vs) σ H Q'
  | [], [], _, _, _, h, k => k _ _ h
  | [], _ :: _, _, _, _, h, k => k _ _ h
  | _ :: _, [], _, _, _, h, k => k _ _ h
  | a :: ks, b :: vs, H, Q, Q', h, k => Run.mono (show Run X a σ H _ from h) fun _ _ h1 => Run.mono (show Run X b σ _ _ from h1) fun _ _ h2 => prs_mono ks vs h2 fun ps H' q => k _ H' q
theorem wpr_run : ∀ (ks vs : List Expr) (r : Env2) (G : GD) (Q : List (Key × D) → Env2 → GD → Prop) (F0 T F H : Hp) (σ : L2.St), ks.length = vs.length → Lk X F0 T → Sta X.K F0 T F G H r σ → WPr X ks vs r G Q →
    tPairs (prs X ks vs) σ H (fun ps H' => ∃ kvs us r' G' F', ps = us.map (fun kv : Key × V => (kV kv.1, kv.2)) ∧ us.length = ks.length ∧ DRep X.K F' kvs us ∧ Ex F F' ∧ Sta X.K F0 T F' G' H' r' σ ∧ Q kvs r' G')
  | [], [], r, G, Q, F0, T, F, H, σ, _, lk, S, h => ⟨[], [], r, G, F, rfl, rfl, rfl, Ex.refl _, S, h⟩
  | k :: ks, v :: vs, r, G, Q, F0, T, F, H, σ, hl, lk, S, h => by
    refine (h F0 T F H σ lk S).mono fun va H1 ⟨x, r1, G1, F1, e1, S1, k1, key, hx, h1⟩ => ?_
    subst hx
    cases (rep_kD k1)
    refine (h1 F0 T F1 H1 σ lk S1).mono fun vb H2 ⟨y, r2, G2, F2, e2, S2, k2, d, r3, q1, q2⟩ => ?_
    obtain ⟨F3, e3, S3, rp⟩ := S2.fz k2 q1
    have ih := wpr_run ks vs r3 G2 _ F0 T F3 H2 σ (by simpa using hl) lk S3 q2
    refine prs_mono ks vs ih fun ps H' ⟨kvs, us, r', G', F', z1, z0, z2, z3, z4, z5⟩ => ?_
    exact ⟨(key, d) :: kvs, (key, vb) :: us, r', G', F', by rw [z1]; rfl, by rw [List.length_cons, List.length_cons, z0], ⟨_, us, rfl, rfl, Rep.mono z3 _ _ rp, z2⟩, ((e1.trans e2).trans e3).trans z3, z4, z5⟩
  | [], _ :: _, _, _, _, _, _, _, _, _, h, _, _, _ => by simp at h
  | _ :: _, [], _, _, _, _, _, _, _, _, h, _, _, _ => by simp at h
theorem we_disp {ks vs : List Expr} {Q : Res → Env2 → GD → Prop} (h : WPr X ks vs r G fun kvs r1 G1 => Q (.fr (dicD (kvs.foldl (fun acc kv => putD acc kv.1 kv.2) []))) r1 G1) (hl : ks.length = vs.length := by rfl) (h0 : ks.map some ≠ [] := by simp) (h15 : (ks.map some).length ≤ 15 := by simp) (hall : (ks.map some).all (·.isSome) = true := by rfl) :
    WE X (.Dict (ks.map some) vs pos) r G Q := fun F0 T F H σ lk S => Run.of (pe_disp (prs_ok ks vs hl) hall (by rw [List.length_map]; exact hl) h0 h15) fun L hD => by
  obtain ⟨f1, f2, f3⟩ := S.bas.freshF hD
  have f0 : F0 L = none := by
    cases e : F0 L with
    | none => rfl
    | some u => rw [S.bas.ff L u e] at f1; cases f1
  refine prs_mono ks vs (wpr_run ks vs r G _ F0 _ F _ σ hl (lk.ext (Ex.new f3)) (S.tbegin hD (.dK []) f0) h) fun ps H' ⟨kvs, us, r', G', F', z1, z0, z2, z3, z4, z5⟩ => ?_
  obtain ⟨t1, t2, t3⟩ := z4.tF f0
  have hlen : us.length ≤ 15 := by rw [z0]; rwa [List.length_map] at h15
  refine ⟨t3, us, z1, hlen, ?_⟩
  obtain ⟨Sc, ow⟩ := (z4.tput f0 (.dK (mergeK [] us))).tend f0 f3
  exact ⟨.fr (dicD _), r', G', F', z3, Sc, ⟨L, rfl, own_dicD (DRep.fold (acc := []) (ws := []) rfl z2) upd_same, t1, t2, f3, ow⟩, z5⟩
theorem we_disp2 {k v k2 v2 : Expr} {Q : Res → Env2 → GD → Prop} (h : WPr X [k, k2] [v, v2] r G fun kvs r1 G1 => Q (.fr (dicD (kvs.foldl (fun acc kv => putD acc kv.1 kv.2) []))) r1 G1) : WE X (.Dict [some k, some k2] [v, v2] pos) r G Q := we_disp (ks := [k, k2]) (vs := [v, v2]) h
theorem disp_of {κ ν : Type} [DecidableEq κ] {k : κ → Key} {f : ν → D} (hk : KInj k) (kvs : List (κ × ν)) {P : D → Prop} (q : P (eD k f (dmk kvs))) : P (dicD ((eDl k f kvs).foldl (fun acc kv => putD acc kv.1 kv.2) [])) := by
  have e2 := fold_putD (f := f) hk kvs []
  rw [show eDl k f [] = [] from rfl] at e2
  rw [e2, eD_dicD]
  exact q
end
theorem kt_int_bool {K : PySem.W.Frag} : PySem.W.kitOne K (.type "int") (.type "bool") = some false := kit_ty (by decide +kernel)
theorem kt_int_int {K : PySem.W.Frag} : PySem.W.kitOne K (.type "int") (.type "int") = some true := kit_ty (by decide +kernel)
open Out (Rt)
section
variable {X : Cy} {e a b c o tg kx vx elt i : Expr} {es ifs : List Expr} {st : Stmt} {sts rest body orelse : List Stmt} {r : Env2} {G : GD} {pos tpos apos cpos p0 : Pos} {D0 : EndsD} {α β γ σT ρ : Type}
theorem we_ifN (en : α → D) {Q : Res → Env2 → GD → Prop}
    (h : WT X c r G fun d r1 G1 => ∃ (β : Type) (ma mb : Out α) (f : α → Out β) (Q0 : β → Prop) (E : Xm → Prop), ((if d = true then ma else mb).bind f).sat Q0 E ∧ (d = true → ∀ Q' : α → Prop, ma.sat Q' E → WE X a r1 G1 fun x r2 G2 => ∃ v, x = .sh (en v) ∧ r2 = r1 ∧ G2 = G1 ∧ Q' v) ∧
      (d = false → ∀ Q' : α → Prop, mb.sat Q' E → WE X b r1 G1 fun x r2 G2 => ∃ v, x = .sh (en v) ∧ r2 = r1 ∧ G2 = G1 ∧ Q' v) ∧ ∀ v, (f v).sat Q0 E → Q (.sh (en v)) r1 G1) : WE X (.IfExp c a b pos) r G Q :=
  we_ifExp (h.mono fun d r1 G1 ⟨β, ma, mb, f, Q0, E, h0, h1, h2, q⟩ => ⟨fun hd => by
    rw [if_pos hd] at h0
    exact (h1 hd _ (Out.sb h0)).mono fun x r2 G2 ⟨v, m1, m2, m3, m4⟩ => by subst m1 m2 m3; exact q v m4, fun hd => by
    rw [if_neg (by rw [hd]; exact Bool.false_ne_true)] at h0
    exact (h2 hd _ (Out.sb h0)).mono fun x r2 G2 ⟨v, m1, m2, m3, m4⟩ => by subst m1 m2 m3; exact q v m4⟩)
theorem ww_orN {Q : Bool → Env2 → GD → Prop} (h : WT X a r G fun c1 r1 G1 => ∃ (β : Type) (m : Out Bool) (f : Bool → Out β) (Q0 : β → Prop) (E : Xm → Prop), ((if c1 = true then .ok true else m).bind f).sat Q0 E ∧ (c1 = false → ∀ Q' : Bool → Prop, m.sat Q' E → WW X (.BoolOp .Or (b :: es) pos) r1 G1 fun d r2 G2 => r2 = r1 ∧ G2 = G1 ∧ Q' d) ∧ ∀ v, (f v).sat Q0 E → Q v r1 G1) : WW X (.BoolOp .Or (a :: b :: es) pos) r G Q :=
  ww_or (h.mono fun c1 r1 G1 ⟨β, m, f, Q0, E, h0, h1, q⟩ => ⟨fun hc => by
    rw [if_neg (by rw [hc]; exact Bool.false_ne_true)] at h0
    exact (h1 hc _ (Out.sb h0)).monoT fun d r2 G2 ⟨m2, m3, m4⟩ => by subst m2 m3; exact q d m4, fun hc => by
    rw [if_pos hc] at h0
    exact q true h0⟩)
end
open Out (Rt)
open Out (Rt)
section
variable {X : Cy} {e a b c o tg kx vx elt i : Expr} {es ifs : List Expr} {st : Stmt} {sts rest body orelse : List Stmt} {r : Env2} {G : GD} {pos tpos apos cpos p0 : Pos} {D0 : EndsD} {α β γ σT ρ : Type}
theorem ResOk.newH {K : PySem.W.Frag} {T F : Hp} {G : GD} {H : Hp} {r : Env2} {σ : L2.St} {x : Res} {v : V} {p : Addr} {o : HO} (h : ResOk K T F G H r σ x v) (hp : H p = none) (hx : ∀ i, x ≠ .pk i) : ResOk K T F G (upd H p o) r σ x v := by
  cases x with
  | sh d => exact h
  | fr d =>
    obtain ⟨q, h1, h2, h3⟩ := h
    exact ⟨q, h1, h2.mono (Ex.refl _) fun o' e => by rw [upd_ne (ne_of_none e hp)]; exact e, h3⟩
  | pk i => exact absurd rfl (hx i)
/-- {k: v, ..}, typed -/
def WPrT (X : Cy) {κ ν : Type} (k : κ → Key) (f : ν → D) : List Expr → List Expr → Env2 → GD → (List (κ × ν) → Env2 → GD → Prop) → Prop
  | a :: ks, v :: vs, r, G, Q => WE X a r G fun x r1 G1 => ∃ key, x = .sh (kD (k key)) ∧ WE X v r1 G1 fun y r2 G2 => ∃ d r3, fz r2 y = some (f d, r3) ∧ WPrT X k f ks vs r3 G2 fun ps r4 G4 => Q ((key, d) :: ps) r4 G4
  | _, _, r, G, Q => Q [] r G
theorem wpr_nil {κ ν : Type} {k : κ → Key} {f : ν → D} {Q : List (κ × ν) → Env2 → GD → Prop} (q : Q [] r G) : WPrT X k f [] [] r G Q := q
theorem wpr_cons {κ ν : Type} {k : κ → Key} {f : ν → D} {v : Expr} {ks vs : List Expr} {Q : List (κ × ν) → Env2 → GD → Prop} (h : WE X a r G fun x r1 G1 => ∃ key, x = .sh (kD (k key)) ∧ WE X v r1 G1 fun y r2 G2 => ∃ d r3, fz r2 y = some (f d, r3) ∧ WPrT X k f ks vs r3 G2 fun ps r4 G4 => Q ((key, d) :: ps) r4 G4) : WPrT X k f (a :: ks) (v :: vs) r G Q := h
theorem wpr_of {κ ν : Type} {k : κ → Key} {f : ν → D} : ∀ (ks vs : List Expr) {r : Env2} {G : GD} {Q : List (κ × ν) → Env2 → GD → Prop} {Q' : List (Key × D) → Env2 → GD → Prop}, WPrT X k f ks vs r G Q → (∀ kvs r G, Q kvs r G → Q' (eDl k f kvs) r G) → WPr X ks vs r G Q'
  | [], [], _, _, _, _, h, m => m [] _ _ h
  | [], _ :: _, _, _, _, _, h, m => m [] _ _ h
  | _ :: _, [], _, _, _, _, h, m => m [] _ _ h
  | a :: ks, v :: vs, r, G, Q, Q', h, m => (show WE X a r G _ from h).mono fun x r1 G1 ⟨key, hx, h1⟩ => ⟨k key, hx, h1.mono fun y r2 G2 ⟨d, r3, e, h2⟩ => ⟨f d, r3, e, wpr_of ks vs h2 fun kvs r G q => m _ r G q⟩⟩
section
variable {κ ν : Type} [DecidableEq κ] {k : κ → Key} {f : ν → D} {a1 a2 a3 v1 v2 v3 : Expr} {Q : Res → Env2 → GD → Prop}
theorem we_dispT2 (hk : KInj k) (h : WPrT X k f [a1, a2] [v1, v2] r G fun kvs r1 G1 => Q (.fr (eD k f (dmk kvs))) r1 G1) : WE X (.Dict [some a1, some a2] [v1, v2] pos) r G Q :=
  we_disp2 (wpr_of _ _ h fun kvs r G q => disp_of hk kvs (P := fun d => Q (.fr d) r G) q)
end
end
open Out (Rt)
section
variable {X : Cy} {e a b c o tg kx vx elt i : Expr} {es ifs : List Expr} {st : Stmt} {sts rest body orelse : List Stmt} {r : Env2} {G : GD} {pos tpos apos cpos p0 : Pos} {D0 : EndsD} {α β γ σT ρ : Type}
theorem ints_rep {K : PySem.W.Frag} {F : Hp} : ∀ (ns : List Int), RepL K F (ns.map D.int) (ns.map V.int)
  | [] => rfl
  | n :: ns => ⟨_, _, rfl, rfl, ints_rep ns⟩
theorem Vw.scr {K : PySem.W.Frag} {F H : Hp} (ex : Ex F H) {ns : List Int} {v : V} (h : Vw K F H (.scr ns) v) : ∃ a, v = .ref a ∧ SqL K H a (ns.map V.int) := by
  rcases h with ⟨a, h1, h2⟩ | ⟨_, _, h⟩
  · exact ⟨a, h1, ex.sqL h2⟩
  · exact h.elim
theorem c_lenR {ns : List Int} {Q : Res → Prop} (q : Q (.sh (.int (ns.length : Nat)))) : CallW1 X (.builtin "len") (.scr ns) Q :=
  c1_flat (d' := .int (ns.length : Nat)) (v' := .int (ns.length : Nat)) (fun _ _ => rfl) (fun F H v ex h => by
    obtain ⟨p, rfl, k1⟩ := h.scr ex
    exact ⟨_, call_len_seq, fun P hp => ⟨p, _, rfl, .inl k1, by rw [List.length_map]; exact hp⟩⟩) q
theorem c_listR {ns : List Int} {Q : Res → Prop} (q : Q (.fr (.lst (ns.map D.int)))) : CallW1 X (.type "list") (.scr ns) Q := fun F0 T F G H r σ v S hv => by
  obtain ⟨p, rfl, k1⟩ := hv.scr S.bas.fh
  exact ⟨_, call_list_of, p, _, rfl, .inl k1, fun l hl => new_lst S (ints_rep ns) hl q⟩
theorem wi_scr {Q : List D → Env2 → GD → Prop} (h : WE X e r G fun x r1 G1 => ∃ ns r2, fz r1 x = some (.scr ns, r2) ∧ Q (ns.map D.int) r2 G1) : WI X tg e r G Q := fun F0 T F H σ lk S =>
  RunI.of (pi_list peR) ((h F0 T F H σ lk S).mono fun v H1 ⟨x, r1, G1, F1, e1, S1, k1, ns, r2, q1, q2⟩ => by
    obtain ⟨Fa, e2, Sa, rp⟩ := S1.fz k1 q1
    obtain ⟨a, rfl, z1⟩ := rp
    refine ⟨a, rfl, ⟨_, Sa.bas.fh.sqL z1⟩, ns.map D.int, r2, G1, Fa, e1.trans e2, Sa, fun F H ea eh => ⟨⟨_, eh.sqL (ea.sqL z1), by rw [List.length_map, List.length_map]; exact Nat.le_refl _⟩, fun i d hi => ?_⟩, q2⟩
    rw [List.getElem?_map] at hi
    cases hn : ns[i]? with
    | none => rw [hn] at hi; cases hi
    | some n =>
      rw [hn] at hi; cases hi
      exact ⟨⟨_, .int n, eh.sqL (ea.sqL z1), by rw [List.getElem?_map, hn]; rfl⟩, fun x H' ⟨y1, y2⟩ => .inl ⟨y1, by
        have := y2 _ (eh.sqL (ea.sqL z1))
        rw [List.getElem?_map, hn] at this; cases this; rfl⟩⟩)
end
instance instRgOk (a b : Int) : Decidable (RgOk a b) := by unfold RgOk; infer_instance
/-- the def that makes the box -/
def FBegun (m : List Int → Bx) : FSp := fun ds G post _ => ∃ ns, ds = [.scr ns] ∧ ∀ b g, g ≠ b → G b = none → G g = none → post (.sh (.adr b)) (bxG G b g (m ns))
/-- a law: the script in, a truth value out; nothing is said of the open region behind it -/
def FLaw (f : List Int → Out Bool) : FSp := fun ds _ post _ => ∃ ns, ds = [.scr ns] ∧ (f ns).sat (fun v => ∀ G', post (.sh (.bl v)) G') (fun _ => False)
open Out (Rt)
open Out (Rt)
/-- membership, by the items' own equality -/
def memB {α : Type} [DecidableEq α] (x : α) (xs : List α) : Bool := decide (x ∈ xs)
structure FlC {α : Type} (en : α → D) (vf : α → V) : Prop where
  rep : ∀ (K : PySem.W.Frag) (F : Hp) (a : α) (v : V), Rep K F (en a) v → v = vf a
  nown : ∀ (K : PySem.W.Frag) (F H : Hp) (p : Addr) (a : α), ¬ Own K F H p (en a)
  flat : ∀ a, flatV (vf a) = true
  eq : ∀ a b, eqV (vf a) (vf b) = true ↔ a = b
section
variable {X : Cy} {α : Type} [DecidableEq α] {en : α → D} {vf : α → V}
theorem FlC.all (h : FlC en vf) {K : PySem.W.Frag} {F : Hp} : ∀ {xs : List α} {vs : List V}, RepL K F (xs.map en) vs → vs = xs.map vf
  | [], _, e => e
  | x :: xs, _, ⟨v, r, e1, e2, e3⟩ => by subst e1; rw [h.rep K F x v e2, h.all e3]; rfl
theorem t_ninM {n : Nat} (h : EqC en n) (hu : X.A.units + 65 < cLine) (x : α) (xs : List α) {Q : Res → Prop} (q : Q (.sh (.bl (!memB x xs)))) (hn : n + 1 ≤ 64 := by decide) : OpW X (compareOp .NotIn) (en x) (.lst (xs.map en)) Q := t_ninD h hu x xs q hn
end
open Out (Rt)
section
variable {X : Cy} {e a b c o tg kx vx elt i : Expr} {es ifs : List Expr} {st : Stmt} {sts rest body orelse : List Stmt} {r : Env2} {G : GD} {pos tpos apos cpos p0 : Pos} {D0 : EndsD} {α β γ σT ρ : Type}
theorem opw_fdivE {Q : Res → Prop} {i j : Int} (hc : 0 < j ∧ j < 2 ^ 200) (q : Q (.sh (.int (i / j)))) : OpW X (binaryOp .FloorDiv) (.int i) (.int j) Q :=
  opw_flat (d := .int (i / j)) (v := .int (i / j)) (fun _ _ => rfl) (fun F H va vb _ h1 h2 => ⟨_, op_fdivW, fun P p => ⟨i, j, h1.int, h2.int, wide_div (b := 200) hc.1 (by have := hc.2; have := hc.1; omega) (by decide) (by decide), p⟩⟩) q
/-- results that are held together -/
def NzL (K : PySem.W.Frag) (T F : Hp) (G : GD) (H : Hp) (r : Env2) (σ : L2.St) : List Res → List V → Prop
  | [], vs => vs = []
  | z :: zs, vs => ∃ v us, vs = v :: us ∧ ResOk K T F G H r σ z v ∧ (∀ i, z ≠ .pk i) ∧ (∀ z2 v2, (z2, v2) ∈ zs.zip us → ∀ d d2, z = .fr d → z2 = .fr d2 → v ≠ v2) ∧ NzL K T F G H r σ zs us
theorem NzL.len {K : PySem.W.Frag} {T F : Hp} {G : GD} {H : Hp} {r : Env2} {σ : L2.St} : ∀ {zs : List Res} {vs : List V}, NzL K T F G H r σ zs vs → vs.length = zs.length
  | [], _, h => by rw [show _ = [] from h]; rfl
  | _ :: _, _, ⟨v, us, e, _, _, _, h⟩ => by rw [e, List.length_cons, List.length_cons, h.len]
theorem NzL.mem {K : PySem.W.Frag} {T F : Hp} {G : GD} {H : Hp} {r : Env2} {σ : L2.St} : ∀ {zs : List Res} {vs : List V}, NzL K T F G H r σ zs vs → ∀ z v, (z, v) ∈ zs.zip vs → ResOk K T F G H r σ z v ∧ ∀ i, z ≠ .pk i
  | [], _, _, z, v, hm => by simp at hm
  | _ :: _, _, ⟨v0, us, e, h1, h2, _, h⟩, z, v, hm => by
    subst e
    rw [List.zip_cons_cons, List.mem_cons] at hm
    rcases hm with hm | hm
    · cases hm; exact ⟨h1, h2⟩
    · exact h.mem z v hm
theorem NzL.map {K : PySem.W.Frag} {T T' F : Hp} {G : GD} {H : Hp} {r : Env2} {σ : L2.St} (f : ∀ z v, ResOk K T F G H r σ z v → ResOk K T' F G H r σ z v) : ∀ {zs : List Res} {vs : List V}, NzL K T F G H r σ zs vs → NzL K T' F G H r σ zs vs
  | [], _, h => h
  | _ :: _, _, ⟨v, us, e, h1, h2, h3, h⟩ => ⟨v, us, e, f _ _ h1, h2, h3, h.map f⟩
theorem NzL.newH {K : PySem.W.Frag} {T F : Hp} {G : GD} {H : Hp} {r : Env2} {σ : L2.St} {p : Addr} {o : HO} (hp : H p = none) : ∀ {zs : List Res} {vs : List V}, NzL K T F G H r σ zs vs → NzL K T F G (upd H p o) r σ zs vs
  | [], _, h => h
  | _ :: _, _, ⟨v, us, e, h1, h2, h3, h⟩ => ⟨v, us, e, h1.newH hp h2, h2, h3, h.newH hp⟩
theorem NzL.setR {K : PySem.W.Frag} {T F : Hp} {G : GD} {H : Hp} {r : Env2} {σ : L2.St} {z : Res} {v : V} {i : Nat} (hi : i < r.length) (hl : r.length = σ.length) (hz : ∀ i, z ≠ .pk i) : ∀ {zs : List Res} {vs : List V}, (∀ z2 v2, (z2, v2) ∈ zs.zip vs → ∀ d d2, z = .fr d → z2 = .fr d2 → v ≠ v2) → NzL K T F G H r σ zs vs → NzL K T F G H (r.set i (slO z)) (σ.set i (some v)) zs vs
  | [], _, _, h => h
  | z2 :: zs, _, hd, ⟨v2, us, e, h1, h2, h3, h⟩ => by
    subst e
    exact ⟨v2, us, rfl, h1.setR hi hl hz h2 (hd z2 v2 (by simp)), h2, h3, h.setR hi hl hz fun z3 v3 hm => hd z3 v3 (by rw [List.zip_cons_cons]; exact List.mem_cons_of_mem _ hm)⟩
theorem setAllR {K : PySem.W.Frag} {F0 T F : Hp} {G : GD} {H : Hp} : ∀ (ixs : List Nat) (zs : List Res) (vs : List V) (r : Env2) (σ : L2.St), Sta K F0 T F G H r σ → NzL K T F G H r σ zs vs → (∀ i, i ∈ ixs → i < r.length) → Sta K F0 T F G H ((ixs.zip zs).foldl (fun r p => r.set p.1 (slO p.2)) r) ((ixs.zip vs).foldl (fun s p => s.set p.1 (some p.2)) σ)
  | [], _, _, r, σ, S, _, _ => by simpa using S
  | i :: ixs, [], _, r, σ, S, h, _ => by rw [show _ = [] from h]; simpa using S
  | i :: ixs, z :: zs, _, r, σ, S, ⟨v, us, e, h1, h2, h3, h⟩, hi => by
    subst e
    rw [List.zip_cons_cons, List.zip_cons_cons, List.foldl_cons, List.foldl_cons]
    have hl := hi i List.mem_cons_self
    exact setAllR ixs zs us _ _ (S.setR h1 hl h2) (h.setR hl S.len h2 h3) fun j hj => by rw [List.length_set]; exact hi j (List.mem_cons_of_mem _ hj)
def WN (X : Cy) (es : List Expr) (r : Env2) (G : GD) (Q : List Res → Env2 → GD → Prop) : Prop :=
  ∀ (F0 T F H : Hp) (σ : L2.St), Lk X F0 T → Sta X.K F0 T F G H r σ → RunA X es σ H fun vs H' => ∃ zs r' G' F', Ex F F' ∧ Sta X.K F0 T F' G' H' r' σ ∧ NzL X.K T F' G' H' r' σ zs vs ∧ Q zs r' G'
theorem wn_nil {Q : List Res → Env2 → GD → Prop} (q : Q [] r G) : WN X [] r G Q := fun F0 T F H σ lk S => RunA.of pa_nil ⟨[], r, G, F, Ex.refl _, S, rfl, q⟩
theorem wn_cons {Q : List Res → Env2 → GD → Prop} (h : WE X a r G fun z r1 G1 => ∃ z' r2, nz r1 z = some (z', r2) ∧ WN X es r2 G1 fun zs r3 G3 => Q (z' :: zs) r3 G3) (hs : starEach (a :: es) X.env = (false, eval a X.env) :: starEach es X.env := by rfl) : WN X (a :: es) r G Q := fun F0 T F H σ lk S =>
  RunA.of (pa_cons peR paR hs) ((h F0 T F H σ lk S).mono fun v H1 ⟨z, r1, G1, F1, e1, S1, k1, z', r2, q1, q2⟩ => by
    obtain ⟨F2, e2, S2, k2, hz⟩ := S1.nz k1 q1
    obtain ⟨T', tx, S2', hold⟩ := holdT S2 k2 hz
    refine (q2 F0 T' F2 H1 σ (lk.ext tx) S2').mono fun ws H3 ⟨zs, r3, G3, F3, e3, S3, k3, q3⟩ => ?_
    obtain ⟨S4, m1, m2⟩ := hold F3 G3 H3 r3 σ e3 S3
    exact ⟨z' :: zs, r3, G3, F3, (e1.trans e2).trans e3, S4, ⟨v, ws, rfl, m1, hz, fun z2 v2 hm => (m2 z2 v2 (k3.mem z2 v2 hm).1).2, k3.map fun z2 v2 k => (m2 z2 v2 k).1⟩, q3⟩)
/-- a, b, .. = e1, e2, .. by a tuple -/
theorem ws_parN {ts : List Expr} {kt k2 : Nat} {pt pt2 : Pos} (ixs : List Nat) (hc : X.calm = true) (hp : All2 (fun t i => PG X t (gName i)) ts ixs) (hst : ∀ t ∈ ts, ∀ us, (assignEach (t :: us) X.env).map (·.2) = assign t X.env :: (assignEach us X.env).map (·.2))
    (h : WN X es r G fun zs r1 G1 => zs.length = ixs.length ∧ zs.length ≤ 100 ∧ (∀ i, i ∈ ixs → i < r1.length) ∧ D0.nx ((ixs.zip zs).foldl (fun r p => r.set p.1 (slO p.2)) r1) G1)
    (hn : (assignEach ts X.env).length = ixs.length := by rfl) (hf : (assignEach ts X.env).findIdx? (·.1) = none := by rfl)
    (hs : swapsWithSole [.Tuple ts kt pt] (.Tuple es k2 pt2) pos.line X.env = pure false := by rfl) (hw : swappedStores [.Tuple ts kt pt] (.Tuple es k2 pt2) X.env = pure none := by rfl)
    (h1 : (assignEach [.Tuple ts kt pt] X.env).map (·.2) = [assign (.Tuple ts kt pt) X.env] := by rfl) :
    WS X (.Assign [.Tuple ts kt pt] (.Tuple es k2 pt2) pos) r G D0 := fun F0 T F H σ lk S =>
  RunS.of (ps_asg (pe_tup paR) (pg_tup hc (pgs_run hp hst) hn hf) hs hw h1) ((h F0 T F H σ lk S).mono fun vs H1 ⟨zs, r1, G1, F1, e1, S1, k1, q1, q2, q3, q4⟩ => by
    refine ⟨(by rw [k1.len]; show _ ≤ 16777216; omega), fun p hp => ⟨p, vs, rfl, .inl (.inl upd_same), by rw [k1.len]; exact q1, by rw [k1.len]; exact q1, ?_⟩⟩
    exact ⟨_, G1, F1, setAllR ixs zs vs r1 σ (S1.newH hp) (k1.newH hp) q3, q4⟩)
theorem all_lt {ixs : List Nat} {n : Nat} {r : Env2} (h : r.length = n) (k : ixs.all (fun i => decide (i < n)) = true) : ∀ i, i ∈ ixs → i < r.length := fun i hi => by
  have := List.all_eq_true.mp k i hi
  rw [h]; simpa using this
def RunGs (X : Cx) (ts : List Expr) : TGs := fun vs σ H Q => ∀ (pins : List (Addr × Obj)) (s : Shared) (us : List Value), Inv X pins σ H s → Vals vs us → wpAny (model X.prog X.w) X.A (assignInOrder ((assignEach ts X.env).map (·.2)) us) (fun _ s' => ∃ σ' H', Inv X pins σ' H' s' ∧ Q σ' H') X.xe s
theorem RunGs.of {X : Cx} {ts : List Expr} {t : TGs} {vs : List V} {σ : L2.St} {H : Hp} {Q : L2.St → Hp → Prop} (h : PGs X ts t) (k : t vs σ H Q) : RunGs X ts vs σ H Q := fun pins s us I rv => h.run pins s σ H vs us Q I rv k
theorem RunG.of {X : Cx} {tg : Expr} {t : TG} {v : V} {σ : L2.St} {H : Hp} {Q : L2.St → Hp → Prop} (h : PG X tg t) (k : t v σ H Q) : RunG X tg v σ H Q := fun pins s u I rv => h.run pins s σ H v u Q I rv k
theorem RunG.mono {X : Cx} {tg : Expr} {v : V} {σ : L2.St} {H : Hp} {Q Q' : L2.St → Hp → Prop} (h : RunG X tg v σ H Q) (k : ∀ σ' H', Q σ' H' → Q' σ' H') : RunG X tg v σ H Q' := fun pins s u I rv => wpAny_mono (h pins s u I rv) (fun _ _ ⟨σ', H', I', q⟩ => ⟨σ', H', I', k σ' H' q⟩) fun _ _ x => x
theorem RunGs.mono {X : Cx} {ts : List Expr} {vs : List V} {σ : L2.St} {H : Hp} {Q Q' : L2.St → Hp → Prop} (h : RunGs X ts vs σ H Q) (k : ∀ σ' H', Q σ' H' → Q' σ' H') : RunGs X ts vs σ H Q' := fun pins s us I rv => wpAny_mono (h pins s us I rv) (fun _ _ ⟨σ', H', I', q⟩ => ⟨σ', H', I', k σ' H' q⟩) fun _ _ x => x
end
open Out (Rt)
section
variable {X : Cy} {e a b c o tg kx vx elt i : Expr} {es ifs : List Expr} {st : Stmt} {sts rest body orelse : List Stmt} {r : Env2} {G : GD} {pos tpos apos cpos p0 : Pos} {D0 : EndsD} {α β γ σT ρ : Type}
instance instRgC (i j c : Int) (n : Nat) : Decidable (RgC i j c n) := by unfold RgC; infer_instance
end
open Out (Rt)
theorem Room.u65 {k : Nat} {A : Around} (r : Room k A) : A.units + 65 < cLine := by have := r.un; omega
structure OrC {α : Type} (en : α → D) (n : Nat) : Prop where
  eqc : EqC en n
  al : ∀ a b, PySem.W.alike (toP (en a)) (toP (en b)) = true
  nn : ∀ a, toP (en a) ≠ .none
  dp : ∀ a, (toP (en a)).depth ≤ n
section
variable {α β γ : Type}
def ltC (en : α → D) (a b : α) : Bool := PySem.W.dataLt (toP (en a)) (toP (en b))
def leC (en : α → D) (a b : α) : Bool := !ltC en b a
def dsort (en : α → D) (xs : List α) : List α := xs.mergeSort (leC en)
theorem orc_int : OrC eI 0 := ⟨eqc_int, fun _ _ => rfl, (fun _ h => nomatch h), fun a => (by show PyData.depth (toP (eI a)) ≤ 0; simp [toP, PyData.depth])⟩
theorem alike_all {f : α → D} {n : Nat} (h : OrC f n) : ∀ xs ys : List α, PySem.W.alikeAll (toPs (xs.map f)) (toPs (ys.map f)) = true
  | [], _ => by simp [toPs, PySem.W.alikeAll]
  | _ :: _, [] => by simp [toPs, PySem.W.alikeAll]
  | x :: xs, y :: ys => by
    show PySem.W.alikeAll (toP (f x) :: toPs (xs.map f)) (toP (f y) :: toPs (ys.map f)) = true
    rw [PySem.W.alikeAll, h.al, alike_all h xs ys]; rfl
theorem depth_all {f : α → D} {n : Nat} (h : OrC f n) : ∀ xs : List α, PyData.depthAll (toPs (xs.map f)) ≤ n
  | [] => by simp [toPs, PyData.depthAll]
  | x :: xs => by
    show PyData.depthAll (toP (f x) :: toPs (xs.map f)) ≤ n
    have h1 := h.dp x
    have h2 := depth_all h xs
    simp [PyData.depthAll]; omega
theorem orc_tup {f : α → D} {n : Nat} (h : OrC f n) : OrC (eT f) (n + 1) := by
  refine ⟨eqc_tup h.eqc, fun a b => ?_, (fun _ z => nomatch z), fun a => ?_⟩
  · show PySem.W.alike (.tuple (toPs (a.map f))) (.tuple (toPs (b.map f))) = true
    rw [PySem.W.alike]; exact alike_all h a b
  · show PyData.depth (.tuple (toPs (a.map f))) ≤ n + 1
    have := depth_all h a
    simp [PyData.depth]; omega
end
section
variable {X : Cy} {α : Type} {en : α → D} {n : Nat} {Q : Res → Prop}
theorem OrC.dpv (h : OrC en n) {K : PySem.W.Frag} {F H : Hp} (ex : Ex F H) {a : α} {v : V} (hv : Vw K F H (en a) v) : Dp K H v (toP (en a)) := okD.dp ex n _ _ (h.eqc.ok a) hv
end
section
variable {α : Type}
/-- sorted(xs), xs a list that reads as data -/
def rSortedD (K : PySem.W.Frag) {β : Type} (enc : β → PyData) : List V → Hp → VK → Prop := fun vs H Q => ∃ (a : Addr) (xs : List V) (bs : List β) (P : V → β → Prop), vs = [V.ref a] ∧ SqL K H a xs ∧ Paired P xs bs ∧ (∀ x b, P x b → Dp K H x (enc b)) ∧ PySem.W.AllAlike (bs.map enc) ∧ PySem.W.Sortable (bs.map enc) ∧ (∀ b ∈ bs, (enc b).depth ≤ 60) ∧
  ∀ ys p, Paired P ys (bs.mergeSort (PySem.W.dataLe false enc)) → H p = none → Q (.ref p) (upd H p (.lst ys))
theorem each_of {β : Type} {P : V → β → Prop} : ∀ {xs : List V} {us : List Value} {bs : List β}, Vals xs us → Paired P xs bs → PySem.W.EachIs (fun u b => ∃ x, RelV x u ∧ P x b) us bs
  | _, _, _, .nil, .nil => .nil
  | _, _, _, .cons r rs, .cons p ps => .cons ⟨_, r, p⟩ (each_of rs ps)
theorem of_each {β : Type} {P : V → β → Prop} : ∀ {us : List Value} {bs : List β}, PySem.W.EachIs (fun u b => ∃ x, RelV x u ∧ P x b) us bs → ∃ xs, Vals xs us ∧ Paired P xs bs
  | _, _, .nil => ⟨[], .nil, .nil⟩
  | _, _, .cons ⟨x, r, p⟩ t => by
    obtain ⟨xs, h1, h2⟩ := of_each t
    exact ⟨x :: xs, .cons r h1, .cons p h2⟩
theorem cr_sortedD {X : Cx} {β : Type} {enc : β → PyData} (hu : X.A.units + 64 < cLine) : CallR X (.builtin "sorted") (rSortedD X.K enc) := by
  intro pins s σ H vs us Q I r h
  obtain ⟨a, xs, bs, P, rfl, hs, hP, hx, hal, hso, hdp, q⟩ := h
  obtain ⟨its, rv, hl, hz⟩ := I.list hs
  obtain ⟨u, rfl, ru⟩ := vals1 r
  obtain rfl : u = Value.ref a := ru
  have e := each_of rv hP
  have er : PySem.W.EachIs (fun u b => ∃ as, Reads s.heap u (enc b) as) its bs := e.mono fun u b ⟨x, rx, hp⟩ => Dp.reads I _ x u (hx x b hp) rx
  refine PySem.W.sorted_data (enc := enc) hl.isList e er hal hso (by rw [← e.length, ← rv.length]; exact hz) (fun b hb => by have := hdp b hb; omega) fun out ho hout => ?_
  obtain ⟨ys, v1, v2⟩ := of_each hout
  obtain ⟨k, hk⟩ := sortedAll_at s.heap its out.toArray
  refine ⟨.ref (s.heap.objs.size + 1), upd H (s.heap.objs.size + 1) (.lst ys), I.laid (t' := s.toks) (fun b o e => sortedAll_old e) (Nat.le_succ _) ⟨?_, out, k, v1, hk⟩, rfl, q ys _ v2 (I.hok.fresh (Nat.le_succ _))⟩
  rw [v1.length, ho, ← e.length, ← rv.length]; exact hz
end
open Out (Rt)
section
variable {X : Cy} {α : Type} {en : α → D} {n : Nat} {Q : Res → Prop}
theorem repl_paired {K : PySem.W.Frag} {F : Hp} : ∀ {xs : List α} {vs : List V}, RepL K F (xs.map en) vs → Paired (fun v a => Rep K F (en a) v) vs xs
  | [], _, h => by rw [show _ = [] from h]; exact .nil
  | x :: xs, _, ⟨v0, vs', e, h1, h2⟩ => by subst e; exact .cons h1 (repl_paired h2)
theorem paired_repl {K : PySem.W.Frag} {F : Hp} : ∀ {xs : List α} {vs : List V}, Paired (fun v a => Rep K F (en a) v) vs xs → RepL K F (xs.map en) vs
  | [], _, .nil => rfl
  | x :: xs, _, .cons h t => ⟨_, _, rfl, h, paired_repl t⟩
theorem leC_data : PySem.W.dataLe false (fun a : α => toP (en a)) = leC en := by
  funext a b
  rw [PySem.W.dataLe_eq]
  rfl
/-- sorted(xs) of data -/
theorem t_sortedC (h : OrC en n) (hu : X.A.units + 64 < cLine) (xs : List α) (hso : PySem.W.Sortable (xs.map fun a => toP (en a))) (q : Q (.fr (.lst ((dsort en xs).map en)))) (hn : n ≤ 60 := by decide) : CallW1 X (.builtin "sorted") (.lst (xs.map en)) Q := fun F0 T F G H r σ v S hv => by
  obtain ⟨p, vs, rfl, h1, h2⟩ := hv.lst S.bas.fh
  refine ⟨_, cr_sortedD (enc := fun a : α => toP (en a)) hu, p, vs, xs, _, rfl, .inl h1, repl_paired h2, fun x a rp => h.dpv S.bas.fh (.inl rp), PySem.W.AllAlike.of h.al, hso, fun a _ => Nat.le_trans (h.dp a) hn, fun ys l hy hl => ?_⟩
  rw [leC_data] at hy
  exact new_lst S (paired_repl hy) hl q
theorem so_tup {f : α → D} {xs : List (List α)} (h : xs.all (fun x => !x.isEmpty) = true) : PySem.W.Sortable (xs.map fun a => toP (eT f a)) := .inl fun d hd => by
  obtain ⟨a, ha, rfl⟩ := List.mem_map.mp hd
  have := List.all_eq_true.mp h a ha
  cases a with
  | nil => cases this
  | cons y ys => exact ⟨toP (f y), toPs (ys.map f), rfl⟩
end
open Out (Rt)
open Out (Rt)
open Out (Rt)
open Out (Rt)
section
variable {X : Cy} {e a b c o tg kx vx elt : Expr} {r : Env2} {G : GD} {pos p0 p1 p2 : Pos}
/-- the different ints, ascending -/
def uniq (ns : List Int) : List Int := isort ((dmk (ns.map fun x => (x, true))).map (·.1))
end
open Out (Rt)
structure Hold (p : Prop) : Prop where
  h : p
/-- a table grows by a code object -/
theorem Sta.tab {K : PySem.W.Frag} {F0 T F : Hp} {G : GD} {H : Hp} {r : Env2} {σ : L2.St} {P c : Addr} {q : Str} {ps more : Array Value} (S : Sta K F0 T F G H r σ) (hG : G P = some (.tab q)) (hc : H c = none)
    (ht : TriplesOk (ps ++ more).toList) (ha : ∀ (pos : Pos) (cv : Value), codeAmong pos (ps ++ more).toList = some cv → (∃ c0, cv = .ref c0 ∧ F c0 = some (LamX.CodeO c0 q)) ∨ cv = .ref c) :
    Sta K F0 T (upd F c (LamX.CodeO c q)) G (upd (upd H P (.tbl (ps ++ more))) c (LamX.CodeO c q)) r σ := by
  obtain ⟨fc, gc, tc⟩ := S.bas.freshF hc
  have fP := S.bas.fg _ _ hG
  have tP := S.bas.gt _ _ hG
  have hPc : P ≠ c := fun z => by subst z; obtain ⟨o, ho⟩ := S.bas.gh' hG; rw [hc] at ho; cases ho
  have ef : Ex F (upd F c (LamX.CodeO c q)) := Ex.new fc
  have at_ : ∀ a, a ≠ P → a ≠ c → upd (upd H P (.tbl (ps ++ more))) c (LamX.CodeO c q) a = H a := fun a h1 h2 => by rw [upd_ne h2, upd_ne h1]
  refine S.grow (G' := G) ⟨S.bas.ff.trans ef, fun a o h => ?_, fun a o h => ?_, fun a d h => ?_, fun a o h => ?_, S.bas.gt, fun a o h => ?_⟩ ef fun p h1 h2 h3 ⟨u, hu⟩ => ?_
  · by_cases e : a = c
    · subst e; exact .inr tc
    · rw [upd_ne e] at h; exact S.bas.ft a o h
  · by_cases e : a = c
    · subst e; rw [upd_same] at h ⊢; exact h
    · rw [upd_ne e] at h ⊢
      have eP : a ≠ P := fun z => by subst z; rw [fP] at h; cases h
      rw [upd_ne eP]; exact S.bas.fh a o h
  · by_cases e : a = P
    · subst e
      rw [hG] at h; cases h
      exact ⟨_, by rw [upd_ne hPc, upd_same], ht, fun pos cv hcv => by
        rcases ha pos cv hcv with ⟨c0, e1, e2⟩ | e1
        · exact ⟨c0, e1, ef _ _ e2⟩
        · exact ⟨c, e1, upd_same⟩⟩
    · have ec : a ≠ c := fun z => by subst z; rw [gc] at h; cases h
      exact (S.bas.gh a d h).mono ef fun o ho => by rw [at_ a e ec]; exact ho
  · have ec : a ≠ c := fun z => by subst z; rw [gc] at h; cases h
    rw [upd_ne ec]; exact S.bas.fg a o h
  · have ec : a ≠ c := ne_of_none h tc
    have eP : a ≠ P := ne_of_none h tP
    rw [at_ a eP ec]; exact S.bas.tk a o h
  · have ec : p ≠ c := fun z => by subst z; rw [hc] at hu; cases hu
    have eP : p ≠ P := fun z => by subst z; rw [h2] at hG; cases hG
    exact ⟨fun o ho => by rw [at_ p eP ec]; exact ho, by rw [upd_ne ec]; exact h1, h2, h3⟩
section
variable {Z : Cx} {x0 : Exn} {a0 : Addr} {Y : Cy} {oe : Obj} {pn : List (Addr × Obj)} {d : Option Addr} {F1 T1 : Hp} {r : Env2} {G : GD} {a : Expr} {pos p0 : Pos}
theorem ExOk.dict {K : PySem.W.Frag} {F H : Hp} {cls : Value} {d : Option Addr} {x : Exn} (h : ExOk K F cls d x) (e : Ex F H) : d = none ∨ ∃ dd fs, d = some dd ∧ H dd = some (.xd fs) := by
  obtain ⟨_, ⟨h2, h3⟩ | ⟨a, vs, h2, h3, h4⟩⟩ := h
  · exact .inl h2
  · exact .inr ⟨a, _, h2, e _ _ h3⟩
end
open Out (Rt)
open Out (Rt)
theorem opw_fdivX {X : Cy} {Q : Res → Prop} {i j : Int} (hc : 0 < j ∧ j < 2 ^ 400) (q : Q (.sh (.int (i / j)))) : OpW X (binaryOp .FloorDiv) (.int i) (.int j) Q :=
  opw_flat (d := .int (i / j)) (v := .int (i / j)) (fun _ _ => rfl) (fun F H va vb _ h1 h2 => ⟨_, op_fdivW, fun P p => ⟨i, j, h1.int, h2.int, wide_div (b := 400) hc.1 (by have := hc.2; have := hc.1; omega) (by decide) (by decide), p⟩⟩) q
open Out (Rt)
open Out (Rt)
section
variable {X : Cy} {e : Expr} {es : List Expr} {r : Env2} {G : GD} {pos p : Pos} {α : Type}
/-- a list display of typed items -/
theorem we_lstS {f : α → D} {Q : Res → Env2 → GD → Prop} (h : WA X es r G fun ds r1 G1 => ∃ xs : List α, ds = xs.map f ∧ xs.length ≤ LIM ∧ Q (.fr (eL f xs)) r1 G1) : WE X (.List es pos) r G Q :=
  we_lst fun F0 T F H σ lk S => (h F0 T F H σ lk S).mono fun vs H1 ⟨ds, r1, G1, F1, e1, S1, k1, xs, q1, q2, q3⟩ => ⟨ds, r1, G1, F1, e1, S1, k1, by subst q1; rw [List.length_map]; exact q2, by subst q1; exact q3⟩
end
/-- its names: parameters that no slot bears, captured ones, globals -/
structure LamD (N : List Str) (sc scope : Scope) (a : Str) : Prop where
  kind : scope.kind = .function
  co : scope.isCoroutine = false
  gen : scope.isGenerator = false
  nocell : ∀ y ∈ scope.names, y.2 ≠ .cell
  own : ∀ y ∈ scope.names, y.2 = .local → y.1 ∉ N
  free : ∀ y ∈ scope.names, y.2 = .free → sc.names.lookup y.1 = some .cell ∨ sc.names.lookup y.1 = some .free
  par : scope.names.lookup a = some .local
theorem LamD.has {X : Cx} {scope : Scope} {a : Str} (L : LamD X.N X.env.scope scope a) (ok : X.Ok) : ∀ y ∈ scope.names, y.2 = .free → ∃ c, X.env.cells.lookup y.1 = some c := fun y hy e => ok.has y.1 (L.free y hy e)
mutual
def nkP : PyData → NestedKey
  | .int i => .num i
  | .bool b => .num (if b = true then 1 else 0)
  | .str x => .text x
  | .tuple ds => .tup (nkPs ds)
  | _ => .none
def nkPs : List PyData → List NestedKey
  | [] => []
  | d :: ds => nkP d :: nkPs ds
end
mutual
def nkB : PyData → Bool
  | .int _ => true
  | .bool _ => true
  | .str _ => true
  | .tuple ds => nkBs ds
  | .none => true
  | _ => false
def nkBs : List PyData → Bool
  | [] => true
  | d :: ds => nkB d && nkBs ds
end
mutual
theorem nested_of {h : Heap} : ∀ (d : PyData) {v : Value} {as : List Addr}, nkB d = true → Reads h v d as → NestedIs h (nkP d) v
  | .int i, _, _, _, .int _ t => .int i t
  | .bool b, _, _, _, .bool _ => .bool rfl
  | .str x, _, _, _, .str _ t => .text x t
  | .none, _, _, _, .none => .none
  | .tuple ds, _, _, hb, .tuple h1 h2 h3 h4 => .tup h1 h2 h3 (nested_all ds hb h4)
theorem nested_all {h : Heap} : ∀ (ds : List PyData) {vs : List Value} {as : List Addr}, nkBs ds = true → ReadsAll h vs ds as → NestedAll h (nkPs ds) vs
  | [], _, _, _, .nil => .nil
  | d :: ds, _, _, hb, .cons h1 h2 => by
    have hb : (nkB d && nkBs ds) = true := hb
    rw [Bool.and_eq_true] at hb
    exact .cons (nested_of d hb.1 h1) (nested_all ds hb.2 h2)
end
mutual
theorem nk_toP : ∀ d : D, nkP (toP d) = nkD d
  | .non => rfl
  | .bl _ => rfl
  | .int _ => rfl
  | .str _ => rfl
  | .tup ds => by show NestedKey.tup (nkPs (toPs ds)) = .tup (nkDs ds); rw [nk_toPs ds]
  | .lst _ => rfl
  | .dic _ _ => rfl
  | .ins _ _ => rfl
  | .adr _ => rfl
  | .obj _ _ _ => rfl
  | .slo _ _ _ _ => rfl
  | .xdo _ _ => rfl
  | .scr _ => rfl
  | .tab _ => rfl
  | .hob _ _ => rfl
  | .kd _ _ _ => rfl
theorem nk_toPs : ∀ ds : List D, nkPs (toPs ds) = nkDs ds
  | [] => rfl
  | d :: ds => by show nkP (toP d) :: nkPs (toPs ds) = nkD d :: nkDs ds; rw [nk_toP d, nk_toPs ds]
end
section
variable {P : Program} {w : World} {H : Hp} {h : Heap} {a p : Addr} {xs : List KdE} {k : NestedKey} {v : V}
theorem kd_ok (hk : KdAt w h a xs) : ObjOk P w H h a (KdO w a xs) := by
  have hk' := hk
  obtain ⟨h1, h2, h3, ys, o, es, ep, g0, g1, g2, g3, g4⟩ := hk'
  refine ⟨hk, ⟨o, g1⟩, fun k1 k2 ⟨q1, q2, q3, ys', o', es', ep', r0, r1, r2, r3, r4⟩ kk => ⟨q1, q2, q3, ys', o', es', ep', r0, kk _ r1, r2, r3, r4⟩⟩
theorem kd_empty (h : Heap) (hb : sysModules < h.objs.size) : ObjOk P w H (h.push { cls := .type "dict", data := .dict #[] }) h.objs.size (KdO w h.objs.size []) :=
  kd_ok ⟨beq_eq_false_iff_ne.mpr (Ne.symm (Nat.ne_of_lt hb)), Nat.zero_le _, List.nodup_nil, [], _, #[], 0, .nil, Heap.get?_push_size _ rfl, ⟨rfl, rfl, rfl⟩, rfl, rfl⟩
/-- a dict of entries that is looked at: its own object, or a locked one -/
def KdRd (w : World) (H : Hp) (a : Addr) (xs : List KdE) : Prop := H a = some (KdO w a xs) ∨ ∃ ob, H a = some (.frz ob (KdO w a xs))
theorem kd_at (hok : HOk P w H h) (he : KdRd w H a xs) : KdAt w h a xs := by
  rcases he with he | ⟨ob, he⟩
  · exact (hok a _ he).1
  · exact (hok a _ he).2.1
/-- the key of an entry, told by the ghost heap -/
def KyAt (K : PySem.W.Frag) (H : Hp) (x : KdE) : Prop := ∃ d, Dp K H (.ref x.2.1) d ∧ nkP d = x.1 ∧ nkB d = true ∧ x.1.depth ≤ 8
end
theorem KyAt.is {X : Cx} {pins : List (Addr × Obj)} {σ : L2.St} {H : Hp} {s : Shared} (I : Inv X pins σ H s) {x : KdE} (h : KyAt X.K H x) : (nestedKind X.prog X.w).is s.heap x.1 x.2.1 := by
  obtain ⟨d, h1, h2, h3, h4⟩ := h
  obtain ⟨as, hr⟩ := Dp.reads I d (.ref x.2.1) (.ref x.2.1) h1 rfl
  refine ⟨?_, h4⟩
  rw [← h2]; exact nested_of d h3 hr
theorem kdr_keys : ∀ {xs : List KdE} {ys : List (NestedKey × Addr × Value)}, Paired KdR xs ys → ys.map (·.1) = xs.map (·.1)
  | _, _, .nil => rfl
  | _, _, .cons h t => by rw [List.map_cons, List.map_cons, kdr_keys t, h.1]
theorem kdr_mem : ∀ {xs : List KdE} {ys : List (NestedKey × Addr × Value)} {y : NestedKey × Addr × Value}, Paired KdR xs ys → y ∈ ys → ∃ x ∈ xs, KdR x y
  | _, _, _, .nil, h => nomatch h
  | _, _, _, .cons h t, hy => by
    rcases List.mem_cons.mp hy with e | e
    · subst e; exact ⟨_, List.mem_cons_self, h⟩
    · obtain ⟨x, hx, hr⟩ := kdr_mem t e
      exact ⟨x, List.mem_cons_of_mem _ hx, hr⟩
/-- the dict in the heap -/
theorem kd_dict {X : Cx} {pins : List (Addr × Obj)} {σ : L2.St} {H : Hp} {s : Shared} {a : Addr} {xs : List KdE} (I : Inv X pins σ H s) (he : KdRd X.w H a xs) (hk : ∀ x ∈ xs, KyAt X.K H x) :
    (a == sysModules) = false ∧ ∃ ys, Paired KdR xs ys ∧ s.heap.DictOfH (nestedKind X.prog X.w) a ys := by
  obtain ⟨h1, h2, h3, ys, o, es, ep, g0, g1, g2, g3, g4⟩ := kd_at I.hok he
  refine ⟨h1, ys, g0, o, es, ep, g1, g2, g3, g4, fun y hy => ?_, by rw [kdr_keys g0]; exact h3⟩
  obtain ⟨x, hx, e1, e2, _⟩ := kdr_mem g0 hy
  rw [e1, e2]
  exact (hk x hx).is I
/-- a key that is there, or a new one -/
def putN (xs : List KdE) (k : NestedKey) (p : Addr) (v : V) : List KdE := if (xs.any fun x => decide (x.1 = k)) = true then xs.map (fun x => if x.1 = k then (x.1, x.2.1, v) else x) else xs ++ [(k, p, v)]
def valN (xs : List KdE) (k : NestedKey) : Option V := (xs.find? fun x => decide (x.1 = k)).map (·.2.2)
theorem kdr_any (k : NestedKey) : ∀ {xs : List KdE} {ys : List (NestedKey × Addr × Value)}, Paired KdR xs ys → (atKey ys k).isSome = xs.any fun x => decide (x.1 = k)
  | _, _, .nil => rfl
  | x :: xs, y :: ys, .cons h t => by
    have ih := kdr_any k t
    unfold atKey at ih ⊢
    rw [Option.isSome_map] at ih ⊢
    rw [List.any_cons, ← h.1]
    by_cases z : y.1 = k
    · rw [List.find?_cons_of_pos (by simpa using z)]; simp [z]
    · rw [List.find?_cons_of_neg (by simpa using z), ih]; simp [z]
theorem kdr_over {k : NestedKey} {v : V} {u : Value} (r : RelV v u) : ∀ {xs : List KdE} {ys : List (NestedKey × Addr × Value)}, Paired KdR xs ys → Paired KdR (xs.map fun x => if x.1 = k then (x.1, x.2.1, v) else x) (ys.map (putAt k u))
  | _, _, .nil => .nil
  | x :: xs, y :: ys, .cons h t => by
    refine .cons ?_ (kdr_over r t)
    unfold putAt
    dsimp only
    obtain ⟨e1, e2, e3⟩ := h
    by_cases z : x.1 = k
    · rw [if_pos z, if_pos (e1.trans z)]; exact ⟨e1, e2, r⟩
    · rw [if_neg z, if_neg (fun e => z (e1 ▸ e))]; exact ⟨e1, e2, e3⟩
theorem kdr_put {xs : List KdE} {ys : List (NestedKey × Addr × Value)} {k : NestedKey} {p : Addr} {v : V} {u : Value} (h : Paired KdR xs ys) (r : RelV v u) : Paired KdR (putN xs k p v) (storedH ys k p u) := by
  unfold putN storedH
  rw [kdr_any k h]
  by_cases z : (xs.any fun x => decide (x.1 = k)) = true
  · rw [if_pos z, if_pos z]; exact kdr_over r h
  · rw [if_neg z, if_neg z]; exact h.snoc ⟨rfl, rfl, r⟩
theorem putN_keys {xs : List KdE} {k : NestedKey} {p : Addr} {v : V} : (putN xs k p v).map (·.1) = if (xs.any fun x => decide (x.1 = k)) = true then xs.map (·.1) else xs.map (·.1) ++ [k] := by
  unfold putN
  split
  · rw [List.map_map]; exact List.map_congr_left fun x _ => by show (if x.1 = k then (x.1, x.2.1, v) else x).1 = x.1; split <;> rfl
  · rw [List.map_append]; rfl
theorem putN_nd {xs : List KdE} {k : NestedKey} {p : Addr} {v : V} (h : (xs.map (·.1)).Nodup) : ((putN xs k p v).map (·.1)).Nodup := by
  rw [putN_keys]
  split
  · exact h
  · rename_i z
    refine List.nodup_append.mpr ⟨h, by simp, fun a ha b hb => ?_⟩
    rw [List.mem_singleton] at hb
    subst hb
    intro e
    subst e
    obtain ⟨x, hx, e⟩ := List.mem_map.mp ha
    exact z (List.any_eq_true.mpr ⟨x, hx, decide_eq_true e⟩)
theorem putN_len {xs : List KdE} {k : NestedKey} {p : Addr} {v : V} : (putN xs k p v).length ≤ xs.length + 1 := by
  unfold putN
  split
  · rw [List.length_map]; omega
  · rw [List.length_append]; simp
section
variable {X : Cx} {pins : List (Addr × Obj)} {σ : L2.St} {H : Hp} {s : Shared} {E : Value → Shared → Prop} {a p : Addr} {xs : List KdE} {k : NestedKey} {v : V} {u : Value} {A : Around}
theorem kd_new {H' : Hp} {h' : Heap} {ys : List (NestedKey × Addr × Value)} (h1 : (a == sysModules) = false) (h2 : xs.length ≤ sizeLine) (h3 : (xs.map (·.1)).Nodup) (g : Paired KdR xs ys) (dd : h'.DictOfH (nestedKind X.prog X.w) a ys) : ObjOk X.prog X.w H' h' a (KdO X.w a xs) := by
  obtain ⟨o, es, ep, r1, r2, r3, r4, _, _⟩ := dd
  exact kd_ok ⟨h1, h2, h3, ys, o, es, ep, g, r1, r2, r3, r4⟩
theorem d_kset {Q : Unit → Shared → Prop} (I : Inv X pins σ H s) (hu : A.units + 8 < cLine) (hD : H a = some (KdO X.w a xs)) (hz : xs.length < sizeLine) (hxs : ∀ x ∈ xs, KyAt X.K H x) (hk : KyAt X.K H (k, p, v)) (rv : RelV v u)
    (h : ∀ s', Inv X pins σ (upd H a (KdO X.w a (putN xs k p v))) s' → Q () s') : wpAny (model X.prog X.w) A (dictSet a (.ref p) u) Q E s := by
  obtain ⟨g1, g2, g3, _⟩ := kd_at I.hok (.inl hD)
  obtain ⟨_, ys, g0, dd⟩ := kd_dict I (.inl hD) hxs
  refine wpAny_dictSet_heap (knd := nestedKind X.prog X.w) (hsz := by rw [← Paired.length g0]; omega) hu (hk.is I) dd fun h' dd' hs => h _ ?_
  have hl := putN_len (xs := xs) (k := k) (p := p) (v := v)
  have he : ∃ q, h'.get? a = some q := let ⟨q, _, _, hq, _⟩ := dd'; ⟨q, hq⟩
  exact d_write I (by rw [hD]; exact True.intro) hs he (kd_new g1 (by omega) (putN_nd g3) (kdr_put g0 rv) dd')
end
/-- what the dict is at first, and what a store in it asks and leaves -/
structure DSt (X : Cx) (o0 : Addr → HO) (stp : Addr → V → V → Hp → (Hp → Prop) → Prop) : Prop where
  new : ∀ (H : Hp) (h : Heap), sysModules < h.objs.size → ObjOk X.prog X.w H (h.push { cls := .type "dict", data := .dict #[] }) h.objs.size (o0 h.objs.size)
  put : ∀ (Y : Cx) (pins : List (Addr × Obj)) (σ : L2.St) (H : Hp) (s : Shared) (D : Addr) (y z : V) (u r : Value) (N : Hp → Prop) (Q : Unit → Shared → Prop) (E : Value → Shared → Prop), Y.prog = X.prog → Y.w = X.w → Y.K = X.K → Y.A.units = X.A.units → Inv Y pins σ H s → stp D y z H N → RelV y u → RelV z r →
    (∀ s' H', Inv Y pins σ H' s' → N H' → Q () s') → wpAny (model Y.prog Y.w) Y.A (dictSet D u r) Q E s
def tDcG (o0 : Addr → HO) (stp : Addr → V → V → Hp → (Hp → Prop) → Prop) (wi : TI) (g : TG) (tt : TT) (tk tv : TE) (vs : List Nat) : TE := fun σ H Q => wi σ H fun J H1 => ∀ D, H1 D = none → ∃ W : Nat → Nat → Hp → Prop, (∃ m, W 0 m (upd H1 D (o0 D))) ∧ ∀ i m H, W i m H →
  (J.stop i H ∧ Q (.ref D) H) ∨ (J.go i H ∧ ∃ Nx : Hp → Prop, (∀ H', Nx H' → ∃ m', m' < m ∧ W (i + 1) m' H') ∧ ∀ x H', J.yld i H x H' → g x (wipe σ vs) H' fun σ2 H2 => wipe σ2 vs = wipe σ vs ∧ tt σ2 H2 fun b H3 =>
    if b = true then tk σ2 H3 fun y H4 => tv σ2 H4 fun z H5 => stp D y z H5 Nx else Nx H3)
section
variable {X : Cx} {o0 : Addr → HO} {stp : Addr → V → V → Hp → (Hp → Prop) → Prop} {kx vx tg iter : Expr} {ifs : List Expr} {scope : Scope} {own : List (Str × Nat)} {pos pos' : Pos} {wi : TI} {g : TG} {tt : TT} {tk tv : TE}
/-- the readings of the parts, in every block -/
structure DParts (X : Cx) (scope : Scope) (tg kx vx : Expr) (ifs : List Expr) (g : TG) (tt : TT) (tk tv : TE) : Prop where
  g : ∀ (s : Shared) (H : Hp) (C : Addr) (cl : List (Str × Addr)) (fp : List Addr), PG (X.blk s H scope (compEnvC scope cl C X.env) fp) tg g
  t : ∀ (s : Shared) (H : Hp) (C : Addr) (cl : List (Str × Addr)) (fp : List Addr), PTs (X.blk s H scope (compEnvC scope cl C X.env) fp) ifs tt
  k : ∀ (s : Shared) (H : Hp) (C : Addr) (cl : List (Str × Addr)) (fp : List Addr), PE (X.blk s H scope (compEnvC scope cl C X.env) fp) kx tk
  v : ∀ (s : Shared) (H : Hp) (C : Addr) (cl : List (Str × Addr)) (fp : List Addr), PE (X.blk s H scope (compEnvC scope cl C X.env) fp) vx tv
theorem dcg_core {pins : List (Addr × Obj)} {s : Shared} {σ : L2.St} {H : Hp} {Q : VK} {use : Option (Value → Sem Unit)} {Qf : Value → Shared → Prop} (O : DSt X o0 stp) (hc : X.calm = true) (hN : X.N.Nodup) (I : Inv X pins σ H s) (hi : PI X tg iter wi) (ok : BlkOk X.N X.env.scope scope own) (B : DParts X scope tg kx vx ifs g tt tk tv)
    (hs : ∀ x, foldedSetIterable iter X.env x = pure x) (h : tDcG o0 stp wi g tt tk tv (own.map (·.2)) σ H Q)
    (hfin : ∀ D C s' m H', Inv X pins σ H' s' → Q (.ref D) H' → s'.heap.Ns C m → FpOk X pins H' C → compPost (model X.prog X.w) X.A X.xe use Qf (.ref D) C (.ok .next) s') :
    wpAny (model X.prog X.w) X.A (comprehension (.DictComp kx vx [⟨tg, iter, ifs, 0⟩] scope pos) scope X.env pos' newDict false (eval iter X.env) use) Qf X.xe s := by
  have free : ∀ y ∈ scope.names, y.2 = .free → ∃ c, X.env.cells.lookup y.1 = some c := fun y hy e => (ok.free y hy e).elim (fun q => I.ok.has _ (.inl q)) fun q => I.ok.has _ (.inr q)
  refine wpAny_comprehension_free (use := use) rfl hs (closure_ok free) ok.kind (fun y hy e => by rw [ok.uniq y hy, e]) ?_
  refine thn (hi.run pins s σ H _ I h) fun xv s1 hx => thn hx fun itv s2 hit => ?_
  obtain ⟨it, fp, tn, J, H2, rfl, I2, T, st2, f2, q⟩ := hit
  refine wpAny_newObj_type (newEnv_comp ?_)
  obtain ⟨D, hD⟩ : ∃ D, s2.heap.objs.size = D := ⟨_, rfl⟩
  rw [hD]
  have hDn : H2 D = none := I2.hok.fresh (Nat.le_of_eq hD)
  obtain ⟨W, ⟨m0, w0⟩, turn⟩ := q D hDn
  obtain ⟨s3, hs3⟩ : ∃ s3 : Shared, ({ s2 with heap := s2.heap.push { cls := .type "dict", data := .dict #[] } } : Shared) = s3 := ⟨_, rfl⟩
  rw [hs3]
  have h3 : s3.heap = s2.heap.push { cls := .type "dict", data := .dict #[] } := by rw [← hs3]
  have I3 : Inv X pins σ (upd H2 D (o0 D)) s3 := by
    rw [← hs3]
    refine I2.laid (t' := s2.toks) (fun b o z => Heap.get?_push_of_some _ z) (Nat.le_of_eq hD) ?_
    rw [← hD]; exact O.new _ s2.heap I2.big
  have young : ∀ b ∈ fp, b < s2.heap.objs.size := fun b hb => let ⟨o, e, _⟩ := T.obj _ _ st2 b hb; Heap.lt_size e
  have f3 : ∀ b ∈ fp, FpOk X pins (upd H2 D (o0 D)) b ∧ b < s3.heap.objs.size := fun b hb => by
    refine ⟨⟨?_, (f2 b hb).2⟩, by rw [h3, Heap.size_push]; exact Nat.lt_succ_of_lt (young b hb)⟩
    rw [upd_ne (by rw [← hD]; exact Nat.ne_of_lt (young b hb))]; exact (f2 b hb).1
  have st3 : tn 0 s3.heap := T.keep _ _ _ st2 fun b _ o z => by rw [h3]; exact Heap.get?_push_of_some _ z
  have I4 := block_start I3 ok hN f3
  obtain ⟨cl, hcl⟩ : ∃ cl, cellsFrom (s3.heap.objs.size + 1) scope.names (cloFrom X.env.cells scope.names []) = cl := ⟨_, rfl⟩
  have pg := B.g s3 (upd H2 D (o0 D)) s3.heap.objs.size cl fp
  have pt := B.t s3 (upd H2 D (o0 D)) s3.heap.objs.size cl fp
  have pk := B.k s3 (upd H2 D (o0 D)) s3.heap.objs.size cl fp
  have pv := B.v s3 (upd H2 D (o0 D)) s3.heap.objs.size cl fp
  change codeAny _ _ (.compStart _ 0 (.ref it) (.ref D) (compEnvC scope (cellsFrom (s3.heap.objs.size + 1) scope.names (cloFrom X.env.cells scope.names [])) s3.heap.objs.size X.env)) (compPost _ _ _ _ _ _ s3.heap.objs.size) { s3 with heap := pushCells (s3.heap.push { cls := .type "dict", data := .dict #[] }) scope.names }
  rw [hcl] at I4
  rw [hcl]
  have nfp : ∀ b ∈ fp, (upd H2 D (o0 D)) b = none := fun b hb => (f3 b hb).1.1
  obtain ⟨ce, hce⟩ : ∃ ce, compEnvC scope cl s3.heap.objs.size X.env = ce := ⟨_, rfl⟩
  rw [hce] at I4 pg pt pk pv
  rw [hce]
  have cL : ce.locals = s3.heap.objs.size := by rw [← hce]; rfl
  obtain ⟨s4, hs4⟩ : ∃ s4 : Shared, ({ s3 with heap := pushCells (s3.heap.push { cls := .type "dict", data := .dict #[] }) scope.names } : Shared) = s4 := ⟨_, rfl⟩
  rw [hs4] at I4
  have st4 : tn 0 s4.heap := T.keep _ _ _ st3 fun b _ o z => by rw [← hs4]; exact pushCells_keeps _ _ _ _ (Heap.get?_push_of_some _ z)
  obtain ⟨Z, hZ⟩ : ∃ Z : Cx, X.blk s3 (upd H2 D (o0 D)) scope ce fp = Z := ⟨_, rfl⟩
  have zp : Z.prog = X.prog := by rw [← hZ]
  have zw : Z.w = X.w := by rw [← hZ]
  have zK : Z.K = X.K := by rw [← hZ]
  have zA : Z.A = X.A := by rw [← hZ]
  have zc : Z.calm = X.calm := by rw [← hZ]
  have stat : ∀ {σ' : L2.St} {H' : Hp} {s' : Shared}, Inv Z [] σ' H' s' → (∀ b ∈ fp, H' b = none) → ∀ b ∈ fp, FpOk Z [] H' b := fun {σ' H' s'} I' hn b hb => by
    subst hZ
    exact ⟨hn b hb, (I'.ok.exf b hb).1, I'.ok.exfs b hb, .inl hb, fun x c e => (I'.ok.exf b hb).2 x c e, fun p hp => by cases (show p ∈ ([] : List (Addr × Obj)) ++ [] from hp)⟩
  have back : ∀ {H' : Hp} {s' : Shared} {σ' : L2.St}, Inv Z [] σ' H' s' → Inv X pins σ H' s' := fun {H' s' σ'} I' => by
    subst hZ
    exact I3.call' (ch := fp) I'.os I'.base I'.hok I'.bare fun b hb => let z := (f3 b hb).1.2; ⟨z.2.2.1, z.1, z.2.2.2.1, z.2.2.2.2⟩
  have loop : codeAny (model X.prog X.w) X.A (.compLoop (.DictComp kx vx [⟨tg, iter, ifs, 0⟩] scope pos) 0 (.ref it) (.ref D) ce) (compPost (model X.prog X.w) X.A X.xe use Qf (.ref D) s3.heap.objs.size) s4 := by
    refine compLoop_anyD (fun n s' => ∃ i H', Inv Z [] (wipe σ (own.map (·.2))) H' s' ∧ tn i s'.heap ∧ (∀ b ∈ fp, H' b = none) ∧ W i n H') ?_ m0 ⟨0, _, by subst hZ; exact I4, st4, nfp, w0⟩
    rintro n s5 ⟨i, H5, I5, st5, n5, w5⟩
    rcases turn i n H5 w5 with ⟨stop, qq⟩ | ⟨go, Nx, hNx, step⟩
    · have td := T.done Z zp zw zK (zc.trans hc) i [] s5 _ H5 (fun _ _ => False) I5 (stat I5 n5) st5 stop
      rw [zA] at td
      refine thnF td fun r s6 ⟨hr, I6⟩ => ?_
      subst hr
      have nC : H5 s3.heap.objs.size = none := by
        have z : H5 Z.env.locals = none := I6.free
        rwa [← hZ, show (X.blk s3 (upd H2 D (o0 D)) scope ce fp).env.locals = s3.heap.objs.size from cL] at z
      obtain ⟨m, hn, _⟩ := I6.loc
      have hn' : s6.heap.Ns Z.env.locals m := hn
      rw [← hZ, show (X.blk s3 (upd H2 D (o0 D)) scope ce fp).env.locals = s3.heap.objs.size from cL] at hn'
      exact hfin D s3.heap.objs.size s6 m H5 (back I6) qq hn' (I3.fpOk (Nat.le_refl _) nC)
    · have ti := T.item Z zp zw zK (zc.trans hc) i [] s5 _ H5 (fun _ _ => False) I5 (stat I5 n5) st5 go
      rw [zA] at ti
      refine thnF ti fun r s6 ⟨u, hr, h6⟩ => ?_
      subst hr
      refine thnF h6 fun _ s7 ⟨x, H7, I7, r7, y7, st7, n7⟩ => ?_
      have I7' := I7.pinned (stat I7 n7) (T.obj _ _ st7)
      have leave : ∀ {s' : Shared} {H' : Hp} {σ8 : L2.St}, wipe σ8 (own.map (·.2)) = wipe σ (own.map (·.2)) → Inv Z ([] ++ pinsAt fp s7.heap) σ8 H' s' → Nx H' → ∃ m, m < n ∧ ∃ i H', Inv Z [] (wipe σ (own.map (·.2))) H' s' ∧ tn i s'.heap ∧ (∀ b ∈ fp, H' b = none) ∧ W i m H' := fun {s' H' σ8} hw I' nx => by
        obtain ⟨m', hm, w'⟩ := hNx H' nx
        have same : ∀ b ∈ fp, ∀ o, s7.heap.get? b = some o → s'.heap.get? b = some o ∧ H' b = none := fun b hb o e =>
          let z := I'.pin (b, o) (List.mem_append_right _ (List.mem_append_right _ (mem_pinsAt hb e))); ⟨z.1, z.2.1⟩
        refine ⟨m', hm, i + 1, H', (I'.unpinned (pins := [])).weak (by rw [← hw, wipe_length]) (fun j v e => by rw [← hw] at e; exact (wipe_some e).1), ?_, fun b hb => ?_, w'⟩
        · exact T.keep _ _ _ st7 fun b hb o e => (same b hb o e).1
        · obtain ⟨o, e, _⟩ := T.obj _ _ st7 b hb
          exact (same b hb o e).2
      have hg := pg.run _ s7 _ H7 x u _ (by subst hZ; exact I7') r7 (step x H7 y7)
      refine thnF hg fun _ s8 ⟨σ8, H8, I8, hw8, q8⟩ => ?_
      refine thnF (pt.run _ s8 σ8 H8 _ I8 q8) fun b s9 ⟨H9, I9, q9⟩ => ?_
      cases b with
      | false =>
        rw [if_neg Bool.false_ne_true] at q9
        rw [if_neg Bool.false_ne_true]
        exact leave hw8 (by subst hZ; exact I9) q9
      | true =>
        rw [if_pos rfl] at q9
        rw [if_pos rfl]
        refine thnF (pk.run _ s9 σ8 H9 _ I9 q9) fun ku s10 ⟨ky, H10, I10, r10, q10⟩ => thnF (pv.run _ s10 σ8 H10 _ I10 q10) fun vu s11 ⟨vy, H11, I11, r11, hst⟩ => ?_
        exact O.put (X.blk s3 (upd H2 D (o0 D)) scope ce fp) _ _ _ _ _ _ _ _ _ _ _ _ rfl rfl rfl rfl I11 hst r10 r11 fun s' H' I' nx => leave hw8 (by subst hZ; exact I') nx
  subst hs4
  exact codeAny_compStart_dict loop (T.self X.A 0 _ _ _ st4 loop)
theorem pe_dcg (O : DSt X o0 stp) (hc : X.calm = true) (hN : X.N.Nodup) (hi : PI X tg iter wi) (ok : BlkOk X.N X.env.scope scope own) (B : DParts X scope tg kx vx ifs g tt tk tv) (hs : ∀ x, foldedSetIterable iter X.env x = pure x) :
    PE X (.DictComp kx vx [⟨tg, iter, ifs, 0⟩] scope pos) (tDcG o0 stp wi g tt tk tv (own.map (·.2))) := ⟨fun pins s σ H Q I h => by
  rw [arm_eval_DictComp]
  refine dcg_core O hc hN I hi ok B hs h fun D C s' m H' I' q hn f => ⟨m, hn, fun h'' sb => ⟨.ref D, H', ?_, rfl, q⟩⟩
  exact I'.turned (t' := s'.toks) (fun b o hb e => (sb.2 b hb).trans e) f.1 f.2.1 f.2.2.2.1 f.2.2.2.2.1 f.2.2.2.2.2⟩
/-- y = {k: v for ..} on one line -/
theorem ps_setDcG {i : Nat} {y : Str} {py spos : Pos} (O : DSt X o0 stp) (hc : X.calm = true) (hN : X.N.Nodup) (hy : X.N[i]? = some y) (hyl : X.env.scope.names.lookup y = some .local)
    (hsw : swapsWith (.DictComp kx vx [⟨tg, iter, ifs, 0⟩] scope pos) (some (.Name y py)) spos.line X.env = pure true) (hi : PI X tg iter wi) (ok : BlkOk X.N X.env.scope scope own) (B : DParts X scope tg kx vx ifs g tt tk tv) (hs : ∀ x, foldedSetIterable iter X.env x = pure x) :
    PS X (.Assign [.Name y py] (.DictComp kx vx [⟨tg, iter, ifs, 0⟩] scope pos) spos) (tAsg (tDcG o0 stp wi g tt tk tv (own.map (·.2))) (gName i)) := ⟨fun pins s σ H D I h => by
  rw [exec_Assign_Name_used _ _ _ _ hsw]
  refine wpAny_bind (wpAny_standAt (wpAny_bind ?_))
  show wpAny _ X.A (do let _ ← comprehension (.DictComp kx vx [⟨tg, iter, ifs, 0⟩] scope pos) scope X.env (firstIterPos [⟨tg, iter, ifs, 0⟩] pos) newDict false (eval iter X.env) (some (assign (.Name y py) X.env))) _ _ s
  have hh : tDcG o0 stp wi g tt tk tv (own.map (·.2)) σ H (fun x H1 => gName i x σ H1 D.nx) := h
  refine wpAny_bind (thn (dcg_core (Qf := fun _ s' => SP X pins D .next s') O hc hN I hi ok B hs hh fun L C s' m H' I' q hn f => ?_) fun _ s' hq => wpAny_pure (wpAny_pure hq))
  show wpAny _ _ (assign (.Name y py) X.env (.ref L)) _ _ _
  refine wpAny_assign_Name (store_ok2 (v := V.ref L) I' hN hy (.inl hyl) rfl (fun s2 I2 ⟨a, sb, ha⟩ => ⟨m, hn.sameBut sb (ha.elim (fun z => z ▸ f.2.1) fun z e => f.2.2.2.2.1 y a z e.symm), fun h3 sb3 => ⟨_, H', ?_, q⟩⟩) (.inr hyl))
  exact I2.turned (t' := s2.toks) (fun b o hb e => (sb3.2 b hb).trans e) f.1 f.2.1 f.2.2.2.1 f.2.2.2.2.1 f.2.2.2.2.2⟩
end
def KRep (K : PySem.W.Frag) (F : Hp) : List (D × D) → List KdE → Prop
  | [], us => us = []
  | p :: acc, us => ∃ u us', us = u :: us' ∧ u.1 = nkD p.1 ∧ Rep K F p.1 (.ref u.2.1) ∧ Rep K F p.2 u.2.2 ∧ KRep K F acc us'
def kdD (w : World) (acc : List (D × D)) : D := .kd w (acc.map (·.1)) (acc.map (·.2))
structure KyD (d : D) : Prop where
  ok : ∃ n, okD n d
  nb : nkB (toP d) = true
  dp : (nkD d).depth ≤ 8
section
variable {K : PySem.W.Frag} {F F' H : Hp} {w : World}
theorem KRep.mono (e : Ex F F') : ∀ {acc : List (D × D)} {us : List KdE}, KRep K F acc us → KRep K F' acc us
  | [], _, h => h
  | p :: acc, _, ⟨u, us', h1, h2, h3, h4, h5⟩ => ⟨u, us', h1, h2, Rep.mono e _ _ h3, Rep.mono e _ _ h4, h5.mono e⟩
theorem KRep.length : ∀ {acc : List (D × D)} {us : List KdE}, KRep K F acc us → us.length = acc.length
  | [], _, h => by rw [show _ = [] from h]; rfl
  | p :: acc, _, ⟨u, us', h1, _, _, _, h5⟩ => by rw [h1, List.length_cons, List.length_cons, h5.length]
theorem KRep.own : ∀ {acc : List (D × D)} {us : List KdE}, KRep K F acc us → us.map (·.1) = nkDs (acc.map (·.1)) ∧ RepL K F (acc.map (·.1)) (us.map fun e => .ref e.2.1) ∧ RepL K F (acc.map (·.2)) (us.map (·.2.2))
  | [], _, h => by rw [show _ = [] from h]; exact ⟨rfl, rfl, rfl⟩
  | p :: acc, _, ⟨u, us', h1, h2, h3, h4, h5⟩ => by
    subst h1
    obtain ⟨z1, z2, z3⟩ := h5.own
    refine ⟨?_, ⟨_, _, rfl, h3, z2⟩, ⟨_, _, rfl, h4, z3⟩⟩
    show u.1 :: us'.map (·.1) = nkD p.1 :: nkDs (acc.map (·.1))
    rw [h2, z1]
theorem KRep.of : ∀ {acc : List (D × D)} {us : List KdE}, us.map (·.1) = nkDs (acc.map (·.1)) → RepL K F (acc.map (·.1)) (us.map fun e => .ref e.2.1) → RepL K F (acc.map (·.2)) (us.map (·.2.2)) → KRep K F acc us
  | [], us, h, _, _ => by cases us with | nil => rfl | cons u us => cases h
  | p :: acc, us, h, h2, h3 => by
    cases us with
    | nil => cases h
    | cons u us =>
      have h' : u.1 :: us.map (·.1) = nkD p.1 :: nkDs (acc.map (·.1)) := h
      injection h' with e1 e2
      obtain ⟨v, r, z1, z2, z3⟩ := h2
      obtain ⟨v', r', y1, y2, y3⟩ := h3
      injection z1 with z4 z5
      injection y1 with y4 y5
      subst z4 z5 y4 y5
      exact ⟨u, us, rfl, e1, z2, y2, KRep.of e2 z3 y3⟩
theorem own_kdD {p : Addr} {acc : List (D × D)} {us : List KdE} (h : KRep K F acc us) (hp : H p = some (KdO w p us)) : Own K F H p (kdD w acc) := by
  obtain ⟨z1, z2, z3⟩ := h.own
  exact ⟨us, hp, z1, z2, z3⟩
theorem kdD_own {p : Addr} {acc : List (D × D)} (h : Own K F H p (kdD w acc)) : ∃ us, KRep K F acc us ∧ H p = some (KdO w p us) := by
  obtain ⟨us, hp, z1, z2, z3⟩ := h
  exact ⟨us, KRep.of z1 z2 z3, hp⟩
theorem kdD_vw (ex : Ex F H) {acc : List (D × D)} {v : V} (h : Vw K F H (kdD w acc) v) : ∃ p us, v = .ref p ∧ KRep K F acc us ∧ KdRd w H p us := by
  rcases h with ⟨a, ob, es, h1, h2, h3, h4, h5⟩ | ⟨p, h1, h2⟩
  · exact ⟨a, es, h1, KRep.of h3 h4 h5, .inr ⟨ob, ex _ _ h2⟩⟩
  · obtain ⟨us, h3, h4⟩ := kdD_own h2
    exact ⟨p, us, h1, h3, .inl h4⟩
theorem ky_at (ex : Ex F H) {d : D} {p : Addr} {v : V} (hd : KyD d) (h : Rep K F d (.ref p)) : KyAt K H (nkD d, p, v) := by
  obtain ⟨n, hn⟩ := hd.ok
  exact ⟨toP d, okD.dp ex n _ _ hn (.inl h), nk_toP d, hd.nb, hd.dp⟩
theorem KRep.ky (ex : Ex F H) : ∀ {acc : List (D × D)} {us : List KdE}, KRep K F acc us → (∀ p ∈ acc, KyD p.1) → ∀ x ∈ us, KyAt K H x
  | [], _, h, _, x, hx => by rw [show _ = [] from h] at hx; cases hx
  | p :: acc, _, ⟨u, us', h1, h2, h3, h4, h5⟩, hk, x, hx => by
    subst h1
    rcases List.mem_cons.mp hx with e | e
    · subst e
      have z : KyAt K H (nkD p.1, x.2.1, x.2.2) := ky_at ex (hk p List.mem_cons_self) h3
      rw [← h2] at z
      exact z
    · exact h5.ky ex (fun q hq => hk q (List.mem_cons_of_mem _ hq)) x e
end
def putKD (acc : List (D × D)) (k d : D) : List (D × D) := if (acc.any fun kv => decide (nkD kv.1 = nkD k)) = true then acc.map (fun kv => if nkD kv.1 = nkD k then (kv.1, d) else kv) else acc ++ [(k, d)]
def valKD (acc : List (D × D)) (k : D) : Option D := (acc.find? fun kv => decide (nkD kv.1 = nkD k)).map (·.2)
section
variable {K : PySem.W.Frag} {F F' H : Hp} {w : World} {k d : D} {p : Addr} {v : V}
theorem KRep.any (k : D) : ∀ {acc : List (D × D)} {us : List KdE}, KRep K F acc us → (us.any fun x => decide (x.1 = nkD k)) = acc.any fun kv => decide (nkD kv.1 = nkD k)
  | [], _, h => by rw [show _ = [] from h]; rfl
  | q :: acc, _, ⟨u, us', h1, h2, _, _, h5⟩ => by subst h1; rw [List.any_cons, List.any_cons, h5.any k, h2]
theorem KRep.over (hv : Rep K F d v) : ∀ {acc : List (D × D)} {us : List KdE}, KRep K F acc us → KRep K F (acc.map fun kv => if nkD kv.1 = nkD k then (kv.1, d) else kv) (us.map fun x => if x.1 = nkD k then (x.1, x.2.1, v) else x)
  | [], _, h => by rw [show _ = [] from h]; rfl
  | q :: acc, _, ⟨u, us', h1, h2, h3, h4, h5⟩ => by
    subst h1
    refine ⟨_, _, List.map_cons, ?_, ?_, ?_, h5.over hv⟩ <;> dsimp only <;> rw [h2] <;> by_cases z : nkD q.1 = nkD k
    · rw [if_pos z, if_pos z]
    · rw [if_neg z, if_neg z]; exact h2
    · rw [if_pos z, if_pos z]; exact h3
    · rw [if_neg z, if_neg z]; exact h3
    · rw [if_pos z, if_pos z]; exact hv
    · rw [if_neg z, if_neg z]; exact h4
theorem KRep.append : ∀ {acc bcc : List (D × D)} {us ws : List KdE}, KRep K F acc us → KRep K F bcc ws → KRep K F (acc ++ bcc) (us ++ ws)
  | [], _, _, _, h, h' => by rw [show _ = [] from h]; exact h'
  | q :: acc, _, _, _, ⟨u, us', h1, h2, h3, h4, h5⟩, h' => by subst h1; exact ⟨u, us' ++ _, rfl, h2, h3, h4, h5.append h'⟩
theorem KRep.put {acc : List (D × D)} {us : List KdE} (h : KRep K F acc us) (hk : Rep K F k (.ref p)) (hv : Rep K F d v) : KRep K F (putKD acc k d) (putN us (nkD k) p v) := by
  unfold putKD putN
  rw [h.any k]
  by_cases z : (acc.any fun kv => decide (nkD kv.1 = nkD k)) = true
  · rw [if_pos z, if_pos z]; exact h.over hv
  · rw [if_neg z, if_neg z]; exact h.append ⟨(nkD k, p, v), [], rfl, rfl, hk, hv, rfl⟩
theorem KRep.val (k : D) : ∀ {acc : List (D × D)} {us : List KdE}, KRep K F acc us → (valKD acc k = none ∧ valN us (nkD k) = none) ∨ ∃ d v, valKD acc k = some d ∧ valN us (nkD k) = some v ∧ Rep K F d v
  | [], _, h => by rw [show _ = [] from h]; exact .inl ⟨rfl, rfl⟩
  | q :: acc, _, ⟨u, us', h1, h2, h3, h4, h5⟩ => by
    subst h1
    by_cases z : nkD q.1 = nkD k
    · right
      refine ⟨q.2, u.2.2, ?_, ?_, h4⟩
      · unfold valKD; rw [List.find?_cons_of_pos (by simpa using z)]; rfl
      · unfold valN; rw [List.find?_cons_of_pos (by simpa [h2] using z)]; rfl
    · have ih := KRep.val k h5
      unfold valKD valN at ih ⊢
      rw [List.find?_cons_of_neg (by simpa using z), List.find?_cons_of_neg (by simpa [h2] using z)]
      exact ih
end
/-- parts of keys -/
structure KyE {α : Type} (f : α → D) (n : Nat) : Prop where
  ok : ∀ a, okD n (f a)
  nb : ∀ a, nkB (toP (f a)) = true
  dp : ∀ a, (nkD (f a)).depth ≤ n
  inj : ∀ a b, nkD (f a) = nkD (f b) → a = b
section
variable {α β γ : Type}
theorem kye_int : KyE eI 0 := ⟨fun _ => trivial, fun _ => rfl, fun a => (by show NestedKey.depth (.num a) ≤ 0; simp [NestedKey.depth]), fun a b h => by injection (show NestedKey.num a = .num b from h)⟩
theorem kye_all {f : α → D} {n : Nat} (h : KyE f n) : ∀ xs : List α, nkBs (toPs (xs.map f)) = true ∧ NestedKey.depthAll (nkDs (xs.map f)) ≤ n
  | [] => ⟨rfl, by simp [nkDs, NestedKey.depthAll]⟩
  | x :: xs => by
    obtain ⟨h1, h2⟩ := kye_all h xs
    refine ⟨?_, ?_⟩
    · show (nkB (toP (f x)) && nkBs (toPs (xs.map f))) = true
      rw [h.nb, h1]; rfl
    · show NestedKey.depthAll (nkD (f x) :: nkDs (xs.map f)) ≤ n
      have := h.dp x
      simp [NestedKey.depthAll]; omega
theorem kye_inj {f : α → D} {n : Nat} (h : KyE f n) : ∀ xs ys : List α, nkDs (xs.map f) = nkDs (ys.map f) → xs = ys
  | [], [], _ => rfl
  | [], y :: ys, e => by cases e
  | x :: xs, [], e => by cases e
  | x :: xs, y :: ys, e => by
    have e' : nkD (f x) :: nkDs (xs.map f) = nkD (f y) :: nkDs (ys.map f) := e
    injection e' with e1 e2
    rw [h.inj _ _ e1, kye_inj h xs ys e2]
theorem kye_tup {f : α → D} {n : Nat} (h : KyE f n) : KyE (eT f) (n + 1) := by
  refine ⟨fun a d hd => ?_, fun a => (kye_all h a).1, fun a => ?_, fun a b e => ?_⟩
  · obtain ⟨x, _, rfl⟩ := List.mem_map.mp hd
    exact h.ok x
  · show NestedKey.depth (.tup (nkDs (a.map f))) ≤ n + 1
    have := (kye_all h a).2
    simp [NestedKey.depth]; omega
  · have e' : NestedKey.tup (nkDs (a.map f)) = .tup (nkDs (b.map f)) := e
    injection e' with e1
    exact kye_inj h _ _ e1
end
structure KyC {κ : Type} (ek : κ → D) : Prop where
  ky : ∀ a, KyD (ek a)
  tp : ∀ a, ∃ ds, ek a = .tup ds
  inj : ∀ a b, nkD (ek a) = nkD (ek b) → a = b
theorem kyc_of {κ : Type} {ek : κ → D} {n : Nat} (h : KyE ek n) (tp : ∀ a, ∃ ds, ek a = .tup ds) (hn : n ≤ 8 := by decide) : KyC ek := ⟨fun a => ⟨⟨n, h.ok a⟩, h.nb a, Nat.le_trans (h.dp a) hn⟩, tp, h.inj⟩
/-- the code of a dict whose keys are tuples -/
abbrev eKd (w : World) {κ ν : Type} (ek : κ → D) (ev : ν → D) : List (κ × ν) → D := fun kvs => .kd w (kvs.map fun p => ek p.1) (kvs.map fun p => ev p.2)
def eKl {κ ν : Type} (ek : κ → D) (ev : ν → D) (kvs : List (κ × ν)) : List (D × D) := kvs.map fun p => (ek p.1, ev p.2)
theorem eKd_kdD (w : World) {κ ν : Type} (ek : κ → D) (ev : ν → D) (kvs : List (κ × ν)) : kdD w (eKl ek ev kvs) = eKd w ek ev kvs := by
  unfold kdD eKl
  rw [List.map_map, List.map_map]; rfl
section
variable {κ ν : Type} [DecidableEq κ] {ek : κ → D} {ev : ν → D}
theorem any_kd (hk : KyC ek) (kvs : List (κ × ν)) (x : κ) : ((eKl ek ev kvs).any fun kv => decide (nkD kv.1 = nkD (ek x))) = kvs.any fun p => decide (p.1 = x) := by
  unfold eKl
  rw [List.any_map]
  congr 1
  funext p
  show decide (nkD (ek p.1) = nkD (ek x)) = decide (p.1 = x)
  by_cases h : p.1 = x
  · rw [h]; simp
  · rw [decide_eq_false h, decide_eq_false (fun z => h (hk.inj _ _ z))]
theorem putKD_eKl (hk : KyC ek) (kvs : List (κ × ν)) (x : κ) (v : ν) : putKD (eKl ek ev kvs) (ek x) (ev v) = eKl ek ev (dput kvs x v) := by
  unfold putKD dput
  rw [any_kd hk]
  split
  · unfold eKl
    rw [List.map_map, List.map_map]
    refine List.map_congr_left fun p _ => ?_
    show (if nkD (ek p.1) = nkD (ek x) then (ek p.1, ev v) else (ek p.1, ev p.2)) = (ek (if p.1 = x then (p.1, v) else p).1, ev (if p.1 = x then (p.1, v) else p).2)
    by_cases h : p.1 = x
    · rw [if_pos h, if_pos (by rw [h])]
    · rw [if_neg h, if_neg (fun z => h (hk.inj _ _ z))]
  · unfold eKl
    rw [List.map_append]; rfl
theorem eKl_ky (hk : KyC ek) (kvs : List (κ × ν)) : ∀ p ∈ eKl ek ev kvs, KyD p.1 := fun p hp => by
  obtain ⟨q, _, rfl⟩ := List.mem_map.mp hp
  exact hk.ky _
end
open Out (Rt)
def KR (K : PySem.W.Frag) (F : Hp) (acc : List (D × D)) (us : List KdE) : Prop := KRep K F acc us ∧ ∀ p ∈ acc, KyD p.1
theorem KR.mono {K : PySem.W.Frag} {F F' : Hp} (e : Ex F F') {acc : List (D × D)} {us : List KdE} (h : KR K F acc us) : KR K F' acc us := ⟨h.1.mono e, h.2⟩
theorem KR.length {K : PySem.W.Frag} {F : Hp} {acc : List (D × D)} {us : List KdE} (h : KR K F acc us) : us.length = acc.length := h.1.length
theorem putKD_ky {acc : List (D × D)} {k d : D} (h : ∀ p ∈ acc, KyD p.1) (hk : KyD k) : ∀ p ∈ putKD acc k d, KyD p.1 := fun p hp => by
  unfold putKD at hp
  split at hp
  · obtain ⟨q, hq, rfl⟩ := List.mem_map.mp hp
    split
    · exact h q hq
    · exact h q hq
  · rcases List.mem_append.mp hp with z | z
    · exact h p z
    · cases List.mem_singleton.mp z; exact hk
theorem KR.put {K : PySem.W.Frag} {F : Hp} {acc : List (D × D)} {us : List KdE} {k d : D} {p : Addr} {v : V} (h : KR K F acc us) (hk : KyD k) (h1 : Rep K F k (.ref p)) (h2 : Rep K F d v) : KR K F (putKD acc k d) (putN us (nkD k) p v) := ⟨h.1.put h1 h2, putKD_ky h.2 hk⟩
theorem KR.own {K : PySem.W.Frag} {F H : Hp} {w : World} {p : Addr} {acc : List (D × D)} {us : List KdE} (h : KR K F acc us) (hp : H p = some (KdO w p us)) : Own K F H p (kdD w acc) := own_kdD h.1 hp
/-- a store in a comprehension's dict -/
def stpK (w : World) (K : PySem.W.Frag) (L : Addr) (y z : V) (H : Hp) (N : Hp → Prop) : Prop := ∃ (xs : List KdE) (k : NestedKey) (p : Addr), y = .ref p ∧ H L = some (KdO w L xs) ∧ xs.length < sizeLine ∧ (∀ x ∈ xs, KyAt K H x) ∧ KyAt K H (k, p, z) ∧ N (upd H L (KdO w L (putN xs k p z)))
theorem dst_kd {X : Cx} (hu : X.A.units + 8 < cLine) : DSt X (fun D => KdO X.w D []) (stpK X.w X.K) := ⟨fun H h hb => kd_empty h hb, fun Y pins σ H s D y z u r N Q E hP hw hK hA I ⟨xs, k, p, e, h1, h2, h3, h4, h5⟩ ry rz hq => by
  subst e
  cases (show u = Value.ref p from ry)
  rw [← hw] at h1 h5
  rw [← hK] at h3 h4
  exact d_kset I (by rw [hA]; exact hu) h1 h2 h3 h4 rz fun s' I' => hq s' _ I' h5⟩
def isTup : D → Prop
  | .tup _ => True
  | _ => False
theorem rep_tupR {K : PySem.W.Frag} {F : Hp} {d : D} {v : V} (ht : isTup d) (h : Rep K F d v) : ∃ p, v = .ref p := by
  cases d with
  | tup ds => obtain ⟨a, _, e, _⟩ := h; exact ⟨a, e⟩
  | _ => exact ht.elim
section
variable {X : Cy} {e a b c o tg kx vx : Expr} {es ifs : List Expr} {st : Stmt} {sts rest body orelse : List Stmt} {r : Env2} {G : GD} {pos tpos p0 : Pos} {D0 : EndsD} {α β γ σT ρ : Type}
def KcTurn (X : Cy) (scope : Scope) (tg kx vx : Expr) (ifs : List Expr) (is : List Nat) (d : D) (acc : List (D × D)) (r : Env2) (G : GD) (Nx : List (D × D) → Env2 → GD → Prop) : Prop :=
  ∀ Y, BlkX X scope Y → WG Y tg d r G is fun r1 G1 => match ifs with
    | [] => ∀ Y, BlkX X scope Y → WE Y kx r1 G1 fun z r2 G2 => ∃ k, z = .sh k ∧ KyD k ∧ isTup k ∧ ∀ Y, BlkX X scope Y → WE Y vx r2 G2 fun z' r3 G3 => ∃ d' r4, fz r3 z' = some (d', r4) ∧ acc.length < LIM ∧ Nx (putKD acc k d') (wipeD r4 is) G3
    | [c] => ∀ Y, BlkX X scope Y → WT Y c r1 G1 fun b r2 G2 => (b = true → ∀ Y, BlkX X scope Y → WE Y kx r2 G2 fun z r3 G3 => ∃ k, z = .sh k ∧ KyD k ∧ isTup k ∧ ∀ Y, BlkX X scope Y → WE Y vx r3 G3 fun z' r4 G4 => ∃ d' r5, fz r4 z' = some (d', r5) ∧ acc.length < LIM ∧ Nx (putKD acc k d') (wipeD r5 is) G4) ∧ (b = false → Nx acc (wipeD r2 is) G2)
    | _ => False
theorem kc_turn {scope : Scope}  {ifs : List Expr} {is : List Nat} {d : D} {acc : List (D × D)} {Nx : List (D × D) → Env2 → GD → Prop} {F0 T F H : Hp} {σ : L2.St} {v : V} {L : Addr} {us : List KdE}
    (lk : Lk X F0 T) (S : Sta X.K F0 (upd T L (KdO X.w L us)) F G H r (L2.wipe σ is)) (hT : T L = none) (h0 : F0 L = none) (ha : KR X.K F0 acc us) (rp : Rep X.K F d v) (h : KcTurn X scope tg kx vx ifs is d acc r G Nx) {Pn : Hp → Prop}
    (hN : ∀ acc' us' r' G' F' H', Nx acc' r' G' → KR X.K F' acc' us' → Sta X.K F0 (upd T L (KdO X.w L us')) F' G' H' r' (L2.wipe σ is) → Pn H') :
    blkG X scope tg v (L2.wipe σ is) H fun σ2 H2 => L2.wipe σ2 is = L2.wipe σ is ∧ blkT X scope ifs σ2 H2 fun b H3 =>
      if b = true then blkE X scope kx σ2 H3 fun y H4 => blkE X scope vx σ2 H4 fun z H5 => stpK X.w X.K L y z H5 Pn else Pn H3 := by
  have wi : L2.wipe (L2.wipe σ is) is = L2.wipe σ is := by
    have aux : ∀ (js : List Nat) (τ : L2.St), (∀ j ∈ js, ∀ x, τ[j]? = some x → x = none) → L2.wipe τ js = τ := by
      intro js
      induction js with
      | nil => intro τ _; rfl
      | cons j js ih =>
        intro τ hτ
        unfold L2.wipe
        rw [ih τ fun k hk => hτ k (List.mem_cons_of_mem _ hk)]
        refine List.ext_getElem? fun k => ?_
        by_cases hjk : j = k
        · subst hjk
          by_cases hl : j < τ.length
          · rw [List.getElem?_set_self hl]
            cases e : τ[j]? with
            | none => rw [List.getElem?_eq_none_iff] at e; omega
            | some x => rw [hτ j List.mem_cons_self x e]
          · rw [List.getElem?_eq_none (by rw [List.length_set]; omega), List.getElem?_eq_none (by omega)]
        · rw [List.getElem?_set_ne hjk]
    refine aux is _ fun j hj x hx => ?_
    cases x with
    | none => rfl
    | some y => exact absurd hj (wipe_some hx).2
  have fin : ∀ (F2 : Hp) (G2 : GD) (H4 : Hp) (r2 r3 : Env2) (σ2 : L2.St) (z : Res) (y : V) (k : D) (pk : Addr) (d' : D), Rep X.K F2 k (.ref pk) → KyD k → L2.wipe σ2 is = L2.wipe σ is → Sta X.K F0 (upd T L (KdO X.w L us)) F2 G2 H4 r2 σ2 → ResOk X.K (upd T L (KdO X.w L us)) F2 G2 H4 r2 σ2 z y → fz r2 z = some (d', r3) → acc.length < LIM → Nx (putKD acc k d') (wipeD r3 is) G2 →
      stpK X.w X.K L (.ref pk) y H4 Pn := fun F2 G2 H4 r2 r3 σ2 z y k pk d' hrk hky hw S2 k2 q1 q2 q3 => by
    obtain ⟨F3, e3, S3, rp3⟩ := S2.fz k2 q1
    have hL : H4 L = some (KdO X.w L us) := S3.bas.tk L _ upd_same
    have ha3 : KR X.K F3 acc us := KR.mono S3.bas.ff ha
    have fL : F3 L = none := by
      cases e : F3 L with
      | none => rfl
      | some u =>
        rcases S3.bas.ft L u e with zz | zz
        · rw [h0] at zz; cases zz
        · rw [upd_same] at zz; cases zz
    have gL : G2 L = none := by
      cases e : G2 L with
      | none => rfl
      | some u => have zz := S3.bas.gt L u e; rw [upd_same] at zz; cases zz
    refine ⟨us, nkD k, pk, rfl, hL, by rw [ha3.length]; exact lim_lt q2, ha3.1.ky S3.bas.fh ha3.2, ky_at S3.bas.fh hky (Rep.mono e3 _ _ hrk), hN _ (putN us (nkD k) pk y) _ G2 F3 _ q3 (ha3.put hky (Rep.mono e3 _ _ hrk) rp3) ?_⟩
    have Sw := S3.wipe is hw
    refine ⟨⟨Sw.bas.ff, fun q u hq => ?_, fun q u hq => ?_, fun q u hq => ?_, Sw.bas.fg, fun q u hq => ?_, fun q u hq => ?_⟩, Sw.len, fun i s hs => ?_, Sw.ap⟩
    · have hqL : q ≠ L := fun zz => by subst zz; rw [fL] at hq; cases hq
      have := Sw.bas.ft q u hq
      rw [upd_ne hqL] at this ⊢
      exact this
    · have hqL : q ≠ L := fun zz => by subst zz; rw [fL] at hq; cases hq
      rw [upd_ne hqL]; exact Sw.bas.fh q u hq
    · have hqL : q ≠ L := fun zz => by subst zz; rw [gL] at hq; cases hq
      exact (Sw.bas.gh q u hq).mono (Ex.refl _) fun o ho => by rw [upd_ne hqL]; exact ho
    · have hqL : q ≠ L := fun zz => by subst zz; rw [gL] at hq; cases hq
      have := Sw.bas.gt q u hq
      rw [upd_ne hqL] at this ⊢
      exact this
    · by_cases hqL : q = L
      · subst hqL; rw [upd_same] at hq ⊢; exact hq
      · rw [upd_ne hqL] at hq ⊢
        exact Sw.bas.tk q u (by rw [upd_ne hqL]; exact hq)
    · have hh := Sw.sl i s hs
      cases s with
      | no => trivial
      | sh d => exact hh
      | own d =>
        obtain ⟨p, k1, k3, k4, k5, k6⟩ := hh
        have hpL : p ≠ L := fun zz => by subst zz; rw [upd_same] at k6; cases k6
        rw [upd_ne hpL] at k6
        exact ⟨p, k1, k3.mono (Ex.refl _) (fun u hu => by rw [upd_ne hpL]; exact hu), k4, k5, by rw [upd_ne hpL]; exact k6⟩
  intro Y hY pins s u I rv
  have lk' : Lk X F0 (upd T L (KdO X.w L us)) := lk.ext (Ex.new hT)
  have hYK : Y.K = X.K := hY.k
  have h' := h Y hY
  unfold WG at h'
  rw [hYK] at h'
  refine wpAny_mono (h' F0 (upd T L (KdO X.w L us)) F H (L2.wipe σ is) v (hY.lk lk') S rp pins s u I rv) (fun _ s' ⟨σ', H', I', hw, r', G', F', e', S', q⟩ => ⟨σ', H', I', hw.trans wi, ?_⟩) fun _ _ x => x
  have hw' := hw.trans wi
  match ifs, q with
  | [], q =>
    unfold blkT
    dsimp only
    rw [if_pos rfl]
    intro Z hZ
    have q' := q Z hZ
    unfold WE at q'
    rw [hZ.k] at q'
    refine (q' F0 _ F' H' σ' (hZ.lk lk') S').mono fun y H4 ⟨z, r2, G2, F2, e2, S2, k2, k, hz, hky, htp, m1⟩ => ?_
    subst hz
    obtain ⟨pk, rfl⟩ := rep_tupR htp k2
    intro W hW
    have q2 := m1 W hW
    unfold WE at q2
    rw [hW.k] at q2
    exact (q2 F0 _ F2 H4 σ' (hW.lk lk') S2).mono fun u H5 ⟨z', r3, G3, F3, e3, S3, k3, d', r4, n1, n2, n3⟩ => fin F3 G3 H5 r3 r4 σ' z' u k pk d' (Rep.mono e3 _ _ k2) hky hw' S3 k3 n1 n2 n3
  | [c], q =>
    intro Z hZ
    have q' := q Z hZ
    unfold WT at q'
    rw [hZ.k] at q'
    refine (q' F0 _ F' H' σ' (hZ.lk lk') S').mono fun b H3 ⟨r2, G2, F2, e2, S2, m1, m2⟩ => ?_
    cases b with
    | true =>
      rw [if_pos rfl]
      intro W hW
      have q2 := m1 rfl W hW
      unfold WE at q2
      rw [hW.k] at q2
      refine (q2 F0 _ F2 H3 σ' (hW.lk lk') S2).mono fun y H4 ⟨z, r3, G3, F3, e3, S3, k3, k, hz, hky, htp, n1⟩ => ?_
      subst hz
      obtain ⟨pk, rfl⟩ := rep_tupR htp k3
      intro V hV
      have q3 := n1 V hV
      unfold WE at q3
      rw [hV.k] at q3
      exact (q3 F0 _ F3 H4 σ' (hV.lk lk') S3).mono fun u H5 ⟨z', r4, G4, F4, e4, S4, k4, d', r5, p1, p2, p3⟩ => fin F4 G4 H5 r4 r5 σ' z' u k pk d' (Rep.mono e4 _ _ k3) hky hw' S4 k4 p1 p2 p3
    | false =>
      rw [if_neg Bool.false_ne_true]
      exact hN acc us _ G2 F2 H3 (m2 rfl) (KR.mono S2.bas.ff ha) (S2.wipe is hw')
  | _ :: _ :: _, q => exact q.elim
/-- what a comprehension's loop keeps -/
def KcInv (w : World) (K : PySem.W.Frag) (T Fa : Hp) (τ : L2.St) (L : Addr) (I : List (D × D) → Env2 → GD → Prop) : Hp → Prop := fun H' =>
  ∃ acc us r' G' F', KR K F' acc us ∧ Sta K Fa (upd T L (KdO w L us)) F' G' H' r' τ ∧ I acc r' G'
theorem kc_begin {w : World} {K : PySem.W.Frag} {F0 T F H : Hp} {σ : L2.St} {is : List Nat} {L : Addr} {I : List (D × D) → Env2 → GD → Prop} (S : Sta K F0 T F G H r σ) (hL : H L = none) (h0 : I [] (wipeD r is) G) : KcInv w K T F (L2.wipe σ is) L I (upd H L (KdO w L [])) := by
  obtain ⟨f1, f2, f3⟩ := S.bas.freshF hL
  have Sb := (S.newH (o := KdO w L []) hL).base.wipe (σ := σ) is rfl
  refine ⟨[], [], _, G, F, ⟨rfl, fun _ z => nomatch z⟩, ⟨⟨Sb.bas.ff, fun q u hq => .inl hq, Sb.bas.fh, Sb.bas.gh, Sb.bas.fg, fun q u hq => ?_, fun q u hq => ?_⟩, Sb.len, fun i s hs => ?_, Sb.ap⟩, h0⟩
  · have hq' : q ≠ L := fun z => by subst z; rw [f2] at hq; cases hq
    rw [upd_ne hq']; exact Sb.bas.gt q u hq
  · by_cases hq' : q = L
    · subst hq'; rw [upd_same] at hq ⊢; exact hq
    · rw [upd_ne hq'] at hq; exact Sb.bas.tk q u hq
  · have hh := Sb.sl i s hs
    cases s with
    | no => trivial
    | sh d => exact hh
    | own d =>
      obtain ⟨p, k1, k2, k3, k4, k5⟩ := hh
      have hp : p ≠ L := fun z => by
        subst z
        by_cases hi : i ∈ is
        · have : (L2.wipe σ is)[i]? ≠ some (some (V.ref p)) := fun z => (wipe_some z).2 hi
          exact this k1
        · have e := (wipe_some k1).1
          have hr : r[i]? = some (.own d) := by
            have aux : ∀ (js : List Nat), i ∉ js → (wipeD r js)[i]? = r[i]? := by
              intro js
              induction js with
              | nil => intro _; rfl
              | cons j js ih =>
                intro hj
                unfold wipeD
                rw [List.getElem?_set_ne (fun z => hj (by rw [z]; exact List.mem_cons_self)), ih (fun z => hj (List.mem_cons_of_mem _ z))]
            rw [aux is hi] at hs
            exact hs
          exact S.freshR hL i d hr e
      exact ⟨p, k1, k2, k3, k4, by rw [upd_ne hp]; exact k5⟩
theorem kc_end {w : World} {K : PySem.W.Frag} {F0 T Fa : Hp} {Ga : GD} {Ha H' : Hp} {σ : L2.St} {is : List Nat} {L : Addr} {I : List (D × D) → Env2 → GD → Prop} {Q : Res → Env2 → GD → Prop} (B : Bas K F0 T Fa Ga Ha) (hL : Ha L = none) (hσ : Wk r (wipeD r is)) (S0 : Sta K F0 T Fa Ga Ha r σ) (h : KcInv w K T Fa (L2.wipe σ is) L I H') (he : ∀ acc r' G', I acc r' G' → Q (.fr (kdD w acc)) r' G') :
    PostE K F0 T Fa σ Q (.ref L) H' := by
  obtain ⟨acc, us, r', G', F', ha, S, q⟩ := h
  obtain ⟨f1, f2, f3⟩ := B.freshF hL
  have fL : F' L = none := by
    cases e : F' L with
    | none => rfl
    | some u =>
      rcases S.bas.ft L u e with zz | zz
      · rw [f1] at zz; cases zz
      · rw [upd_same] at zz; cases zz
  have gL : G' L = none := by
    cases e : G' L with
    | none => rfl
    | some u => have zz := S.bas.gt L u e; rw [upd_same] at zz; cases zz
  have tsub : ∀ q u, T q = some u → upd T L (KdO w L us) q = some u := fun q u hq => by
    have hqL : q ≠ L := fun zz => by subst zz; rw [f3] at hq; cases hq
    rw [upd_ne hqL]; exact hq
  have tdown : ∀ q, upd T L (KdO w L us) q = none → T q = none := fun q hq => by
    cases hf : T q with
    | none => rfl
    | some u => rw [tsub q u hf] at hq; cases hq
  have slots : ∀ (i : Nat) (s : Sl), r'[i]? = some s → SlotOk K T F' G' H' s σ[i]? := fun i s hs => by
    have hh := S.sl i s hs
    cases s with
    | no => trivial
    | sh d => obtain ⟨v, k1, k2⟩ := hh; exact ⟨v, (wipe_some k1).1, k2⟩
    | own d => obtain ⟨p, k1, k2, k3, k4, k5⟩ := hh; exact ⟨p, (wipe_some k1).1, k2, k3, k4, tdown p k5⟩
  have St : Sta K F0 T F' G' H' r' σ := by
    refine ⟨⟨B.ff.trans S.bas.ff, fun q u hq => ?_, S.bas.fh, S.bas.gh, S.bas.fg, fun q u hq => tdown q (S.bas.gt q u hq), fun q u hq => S.bas.tk q u (tsub q u hq)⟩, by rw [S.len, wipe_length], slots, fun i j d e hij hi hj z => ?_⟩
    · rcases S.bas.ft q u hq with zz | zz
      · exact B.ft q u zz
      · exact .inr (tdown q zz)
    · obtain ⟨p, k1, _⟩ := S.ownS hi
      obtain ⟨p2, m1, _⟩ := S.ownS hj
      refine S.ap i j d e hij hi hj ?_
      rw [(wipe_some k1).1, (wipe_some m1).1] at z
      rw [k1, m1, z]
  refine ⟨.fr (kdD w acc), r', G', F', S.bas.ff, St, ⟨L, rfl, ha.own (S.bas.tk L _ upd_same), fL, gL, f3, fun i d hi z => ?_⟩, he acc r' G' q⟩
  obtain ⟨p, k1, _, _, _, k5⟩ := S.ownS hi
  have e1 := (wipe_some k1).1
  rw [e1] at z; cases z
  rw [upd_same] at k5; cases k5
/-- one step of a comprehension over items -/
theorem kc_step {scope : Scope} {ifs : List Expr} {is : List Nat} {d : D} {J : It} {ds : List D} {i : Nat} {T Fa : Hp} {H H' : Hp} {σ : L2.St} {v : V} {L : Addr} {I I' : List (D × D) → Env2 → GD → Prop} (lk : Lk X Fa T) (hL : Fa L = none) (hT : T L = none) (hJ : ItD X.K J Fa ds) (hi : ds[i]? = some d) (h : KcInv X.w X.K T Fa (L2.wipe σ is) L I H) (y : J.yld i H v H')
    (hs : ∀ acc r' G', I acc r' G' → KcTurn X scope tg kx vx ifs is d acc r' G' I') :
    blkG X scope tg v (L2.wipe σ is) H' fun σ2 H2 => L2.wipe σ2 is = L2.wipe σ is ∧ blkT X scope ifs σ2 H2 fun b H3 =>
      if b = true then blkE X scope kx σ2 H3 fun y H4 => blkE X scope vx σ2 H4 fun z H5 => stpK X.w X.K L y z H5 (KcInv X.w X.K T Fa (L2.wipe σ is) L I') else KcInv X.w X.K T Fa (L2.wipe σ is) L I' H3 := by
  obtain ⟨acc, us, r', G', F1, ha1, S1, q⟩ := h
  obtain ⟨F', ef, S, rp⟩ := hJ.item S1.bas.ff S1 hi y
  have ha := KR.mono ef ha1
  have fL : F' L = none := by
    cases e : F' L with
    | none => rfl
    | some u =>
      rcases S.bas.ft L u e with zz | zz
      · rw [hL] at zz; cases zz
      · rw [upd_same] at zz; cases zz
  have lk' : Lk X F' T := ⟨lk.t, lk.f.trans S.bas.ff, fun a o ho => (S.bas.ft a o ho).elim (fun z => lk.ft a o z) fun z => .inr (none_of lk.t (none_of (Ex.new hT) z))⟩
  refine kc_turn lk' S.base hT fL ha rp (hs acc r' G' q) fun acc' us' r2 G2 F2 H2 q2 ha2 S2 => ?_
  refine ⟨acc', us', r2, G2, F2, ha2, ⟨⟨S.bas.ff.trans S2.bas.ff, fun q u hq => ?_, S2.bas.fh, S2.bas.gh, S2.bas.fg, S2.bas.gt, S2.bas.tk⟩, S2.len, S2.sl, S2.ap⟩, q2⟩
  rcases S2.bas.ft q u hq with zz | zz
  · rcases S.bas.ft q u zz with yy | yy
    · exact .inl yy
    · by_cases hqL : q = L
      · subst hqL; rw [fL] at zz; cases zz
      · rw [upd_ne hqL] at yy ⊢; exact .inr yy
  · exact .inr zz
def KcPre (X : Cy) (scope : Scope) (tg e kx vx : Expr) (ifs : List Expr) (vs : List Nat) (r : Env2) (G : GD) (Q : Res → Env2 → GD → Prop) : Prop :=
  WI X tg e r G fun ds r2 G1 => ∃ I : Nat → List (D × D) → Env2 → GD → Prop, I 0 [] (wipeD r2 vs) G1 ∧ (∀ (k : Nat) (d : D) (acc : List (D × D)) (r3 : Env2) (G3 : GD), ds[k]? = some d → I k acc r3 G3 → KcTurn X scope tg kx vx ifs vs d acc r3 G3 (I (k + 1))) ∧
    ∀ acc r3 G3, I ds.length acc r3 G3 → Q (.fr (kdD X.w acc)) r3 G3
theorem kcI {scope : Scope} {own : List (Str × Nat)} {Q : Res → Env2 → GD → Prop} {F0 T F H : Hp} {σ : L2.St} (lk : Lk X F0 T) (S : Sta X.K F0 T F G H r σ) (h : KcPre X scope tg e kx vx ifs (own.map (·.2)) r G Q) :
    tDcG (fun D => KdO X.w D []) (stpK X.w X.K) (RunI X tg e) (blkG X scope tg) (blkT X scope ifs) (blkE X scope kx) (blkE X scope vx) (own.map (·.2)) σ H (PostE X.K F0 T F σ Q) := by
  refine (h F0 T F H σ lk S).mono fun J H1 ⟨ds, r2, G1, Fa, e1, Sa, hJ, I, i0, it, ie⟩ L hL => ?_
  obtain ⟨f1, f2, f3⟩ := Sa.bas.freshF hL
  refine ⟨fun i m H' => m = ds.length - i ∧ i ≤ ds.length ∧ KcInv X.w X.K T Fa (L2.wipe σ (own.map (·.2))) L (I i) H', ⟨ds.length, by simp, Nat.zero_le _, kc_begin Sa hL i0⟩, ?_⟩
  rintro i m H' ⟨rfl, hi, hI⟩
  obtain ⟨_, _, _, _, F', _, S', _⟩ := id hI
  obtain ⟨j1, j2⟩ := hJ F' H' S'.bas.ff S'.bas.fh
  by_cases hlt : i < ds.length
  · obtain ⟨j3, _⟩ := j2 i ds[i] (List.getElem?_eq_getElem hlt)
    refine .inr ⟨j3, fun H2 => KcInv X.w X.K T Fa (L2.wipe σ (own.map (·.2))) L (I (i + 1)) H2, fun H2 p2 => ⟨ds.length - (i + 1), by omega, rfl, hlt, p2⟩, fun x H2 y => ?_⟩
    exact kc_step (lk.base Sa.bas) f1 f3 hJ (List.getElem?_eq_getElem hlt) hI y fun acc r' G' q => it i ds[i] acc r' G' (List.getElem?_eq_getElem hlt) q
  · have e : i = ds.length := by omega
    subst e
    exact .inl ⟨j1, (kc_end Sa.bas hL (wk_wipe _ _) Sa hI fun acc r' G' q => ie acc r' G' q).ext e1⟩
theorem ws_setKc {scope : Scope} (own : List (Str × Nat)) (i : Nat) {y : Str} {py spos : Pos} (hc : X.calm = true) (hu : X.A.units + 64 < cLine) (hN : X.N.Nodup) (hy : X.N[i]? = some y) (hyl : X.env.scope.names.lookup y = some .local)
    (hsw : swapsWith (.DictComp kx vx [⟨tg, e, ifs, 0⟩] scope pos) (some (.Name y py)) spos.line X.env = pure true) (ok : BlkOk X.N X.env.scope scope own)
    (h : KcPre X scope tg e kx vx ifs (own.map (·.2)) r G fun x r3 G3 => i < r3.length ∧ ∃ r2, putS r3 i x = some r2 ∧ D0.nx r2 G3) (hs : ∀ x, foldedSetIterable e X.env x = pure x := by intro _; rfl) : WS X (.Assign [.Name y py] (.DictComp kx vx [⟨tg, e, ifs, 0⟩] scope pos) spos) r G D0 := fun F0 T F H σ lk S =>
  RunS.of (ps_setDcG (dst_kd (by omega)) hc hN hy hyl hsw piR ok ⟨blkG_ok, blkT_ok, blkE_ok, blkE_ok⟩ hs) (by
    refine RunI.mono (kcI lk S h) fun J H1 h1 L hL => ?_
    obtain ⟨W, w0, ws⟩ := h1 L hL
    refine ⟨W, w0, fun i' m H hW => (ws i' m H hW).imp (fun ⟨z1, z2⟩ => ⟨z1, ?_⟩) id⟩
    obtain ⟨y, r1, G1, F1, e1, S1, k1, hi, r2, q1, q2⟩ := z2
    obtain ⟨F2, e2, S2⟩ := S1.putS k1 hi q1
    exact ⟨r2, G1, F2, S2, q2⟩)
theorem wb_setKcQ {scope : Scope} (own : List (Str × Nat)) (i : Nat) {y : Str} {py spos : Pos} (hc : X.calm = true) (hu : X.A.units + 64 < cLine) (hN : X.N.Nodup) (hy : X.N[i]? = some y) (hyl : X.env.scope.names.lookup y = some .local)
    (hsw : swapsWith (.DictComp kx vx [⟨tg, e, ifs, 0⟩] scope pos) (some (.Name y py)) spos.line X.env = pure true) (ok : BlkOk X.N X.env.scope scope own)
    (h : KcPre X scope tg e kx vx ifs (own.map (·.2)) r G (atR fun x R G1 => i < R.length ∧ ∃ R', putS R i x = some R' ∧ WB X rest R' G1 D0)) (hs : ∀ x, foldedSetIterable e X.env x = pure x := by intro _; rfl) :
    WB X (.Assign [.Name y py] (.DictComp kx vx [⟨tg, e, ifs, 0⟩] scope pos) spos :: rest) r G D0 :=
  wb_cons (ws_setKc own i hc hu hN hy hyl hsw ok (WI.mono h fun ds r2 G1 ⟨I, i0, it, ie⟩ => ⟨I, i0, it, fun acc r3 G3 q => by
    obtain ⟨R, w, _, hi, R', hR, k⟩ := ie acc r3 G3 q
    cases hR
    exact ⟨by rw [← w.len]; exact hi, _, rfl, k.weak (w.set _ i)⟩⟩) hs)
theorem isTup_of {κ : Type} {ek : κ → D} (h : KyC ek) (a : κ) : isTup (ek a) := by obtain ⟨ds, e⟩ := h.tp a; rw [e]; trivial
theorem kc0_pre {κ ν : Type} [DecidableEq κ] {scope : Scope} (own : List (Str × Nat)) (R : Env2) {en : α → D} (ek : κ → D) (ev : ν → D) (hk : KyC ek) (g : α → κ × ν) {Q : Res → Env2 → GD → Prop}
    (h : WI X tg e r G fun ds r2 G1 => ∃ xs : List α, ds = xs.map en ∧ xs.length ≤ LIM ∧ Wk (wipeD r2 (own.map (·.2))) R ∧
      (∀ x, Blk X scope fun Y => WG Y tg (en x) R G1 (own.map (·.2)) fun r3 G3 => Blk X scope fun Y => WE Y kx r3 G3 fun z r4 G4 => z = .sh (ek (g x).1) ∧ Blk X scope fun Y => WE Y vx r4 G4 (Made R G1 (own.map (·.2)) (ev (g x).2))) ∧ Q (.fr (eKd X.w ek ev (dmk (xs.map g)))) R G1) : KcPre X scope tg e kx vx [] (own.map (·.2)) r G (atR Q) :=
  (h.mono fun ds r2 G1 ⟨xs, hd, hl, w, hb, q⟩ => by
    subst hd
    refine ⟨fun k acc r3 G3 => Wk r3 R ∧ G3 = G1 ∧ acc = eKl ek ev (dmk ((xs.take k).map g)), ⟨w, rfl, rfl⟩, fun k d acc r3 G3 hd ⟨w3, hG, ha⟩ => ?_, fun acc r3 G3 ⟨w3, hG, ha⟩ => ?_⟩
    · subst hG ha
      obtain ⟨x, hx, rfl⟩ := map_at hd
      have hlt : k < xs.length := (List.getElem?_eq_some_iff.mp hx).1
      intro Y hY
      refine WG.mono (WG.weak w3 (hb x Y hY)) fun r4 G4 q' Y hY => (q' Y hY).mono fun z r5 G5 ⟨hz, q2⟩ => ⟨ek (g x).1, hz, hk.ky _, isTup_of hk _, fun Y hY => (q2 Y hY).mono fun zz r6 G6 ⟨r7, m1, m2, m3⟩ => ⟨ev (g x).2, r7, m1, ?_, m2, m3, ?_⟩⟩
      · unfold eKl
        rw [List.length_map]
        have h1 := dmk_len ((xs.take k).map g)
        rw [List.length_map, List.length_take] at h1
        omega
      · rw [putKD_eKl hk, List.take_add_one, hx, List.map_append]
        show _ = eKl ek ev (dmk (List.map g (List.take k xs) ++ [g x]))
        rw [dmk_snoc]
    · subst hG ha
      rw [List.length_map, List.take_length, eKd_kdD]
      exact ⟨R, w3, (fun i z => by cases z), q⟩)
theorem kcS_pre {κ ν : Type} [DecidableEq κ] {scope : Scope} (own : List (Str × Nat)) (R : Env2) (gg : σT → GD) {en : α → D} (ek : κ → D) (ev : ν → D) (hk : KyC ek) {Q : Res → Env2 → GD → Prop}
    (h : WI X tg e r G fun ds r2 G1 => ∃ (γ : Type) (xs : List α) (s0 : σT) (f : σT → α → Out (Option (κ × ν) × σT)) (kk : List (κ × ν) × σT → Out γ) (Q0 : γ → Prop) (E : Xm → Prop), ds = xs.map en ∧ xs.length ≤ LIM ∧ Wk (wipeD r2 (own.map (·.2))) R ∧ G1 = gg s0 ∧ ((Out.compS f xs [] s0).bind kk).sat Q0 E ∧
      (∀ s x (Q' : Option (κ × ν) × σT → Prop), (f s x).sat Q' E → Blk X scope fun Y => WG Y tg (en x) R (gg s) (own.map (·.2)) fun r3 G3 => match ifs with
        | [] => Blk X scope fun Y => WE Y kx r3 G3 fun z r4 G4 => ∃ k, z = .sh (ek k) ∧ Blk X scope fun Y => WE Y vx r4 G4 fun z r5 G5 => ∃ y s' r6, fz r5 z = some (ev y, r6) ∧ Wk (wipeD r6 (own.map (·.2))) R ∧ G5 = gg s' ∧ Q' (some (k, y), s')
        | [c] => Blk X scope fun Y => WT Y c r3 G3 fun b r4 G4 => (b = true → Blk X scope fun Y => WE Y kx r4 G4 fun z r5 G5 => ∃ k, z = .sh (ek k) ∧ Blk X scope fun Y => WE Y vx r5 G5 fun z r6 G6 => ∃ y s' r7, fz r6 z = some (ev y, r7) ∧ Wk (wipeD r7 (own.map (·.2))) R ∧ G6 = gg s' ∧ Q' (some (k, y), s')) ∧ (b = false → ∃ s', Wk (wipeD r4 (own.map (·.2))) R ∧ G4 = gg s' ∧ Q' (none, s'))
        | _ => False) ∧ ∀ p : List (κ × ν) × σT, (kk p).sat Q0 E → Q (.fr (eKd X.w ek ev (dmk p.1))) R (gg p.2)) : KcPre X scope tg e kx vx ifs (own.map (·.2)) r G (atR Q) :=
  (h.mono fun ds r2 G1 ⟨γ, xs, s0, f, kk, Q0, E, hd, hl, w, hg, h0, hb, hq⟩ => by
    subst hd hg
    refine ⟨fun k acc r3 G3 => ∃ ys s, Wk r3 R ∧ G3 = gg s ∧ acc = eKl ek ev (dmk ys) ∧ ys.length ≤ k ∧ ((Out.compS f (xs.drop k) ys s).bind kk).sat Q0 E, ⟨[], s0, w, rfl, rfl, Nat.le_refl _, h0⟩, fun k d acc r3 G3 hd ⟨ys, s, w3, hG, ha, hly, hq3⟩ => ?_, fun acc r3 G3 ⟨ys, s, w3, hG, ha, hly, hq3⟩ => ?_⟩
    · subst hG ha
      obtain ⟨x, hx, rfl⟩ := map_at hd
      have hlt : k < xs.length := (List.getElem?_eq_some_iff.mp hx).1
      rw [drop_at hx] at hq3
      have st := hb s x _ (compS_step hq3)
      have lim : (eKl ek ev (dmk ys)).length < LIM := by
        unfold eKl
        rw [List.length_map]
        have := dmk_len ys
        omega
      have snoc : ∀ (k : κ) (y : ν), putKD (eKl ek ev (dmk ys)) (ek k) (ev y) = eKl ek ev (dmk (ys ++ [(k, y)])) := fun k y => by rw [putKD_eKl hk, dmk_snoc]
      intro Y hY
      refine WG.mono (WG.weak w3 (st Y hY)) fun r4 G4 q' => ?_
      match ifs, q' with
      | [], q' =>
        refine fun Y hY => (q' Y hY).mono fun zz r5 G5 ⟨key, hz, q2⟩ => ⟨ek key, hz, hk.ky _, isTup_of hk _, fun Y hY => (q2 Y hY).mono fun zz r6 G6 ⟨y, s', r7, m1, m2, m3, m4⟩ => ⟨ev y, r7, m1, lim, ys ++ [(key, y)], s', m2, m3, snoc key y, by rw [List.length_append]; exact Nat.succ_le_succ hly, m4⟩⟩
      | [c], q' =>
        refine fun Y hY => (q' Y hY).mono fun b r5 G5 ⟨q1, q2⟩ => ⟨fun hb1 Y hY => ?_, fun hb0 => ?_⟩
        · exact (q1 hb1 Y hY).mono fun zz r6 G6 ⟨key, hz, q3⟩ => ⟨ek key, hz, hk.ky _, isTup_of hk _, fun Y hY => (q3 Y hY).mono fun zz r7 G7 ⟨y, s', r8, m1, m2, m3, m4⟩ => ⟨ev y, r8, m1, lim, ys ++ [(key, y)], s', m2, m3, snoc key y, by rw [List.length_append]; exact Nat.succ_le_succ hly, m4⟩⟩
        · obtain ⟨s', m2, m3, m4⟩ := q2 hb0
          exact ⟨ys, s', m2, m3, rfl, Nat.le_succ_of_le hly, m4⟩
      | _ :: _ :: _, q' => exact q'.elim
    · subst hG ha
      rw [List.length_map, List.drop_length] at hq3
      rw [eKd_kdD]
      exact ⟨R, w3, (fun i z => by cases z), hq (ys, s) hq3⟩)
theorem we_kcQ {scope : Scope} (own : List (Str × Nat)) {Q : Res → Env2 → GD → Prop} (hc : X.calm = true) (hu : X.A.units + 64 < cLine) (hN : X.N.Nodup) (ok : BlkOk X.N X.env.scope scope own)
    (h : KcPre X scope tg e kx vx ifs (own.map (·.2)) r G (atR Q)) (hs : ∀ x, foldedSetIterable e X.env x = pure x := by intro _; rfl) : WE X (.DictComp kx vx [⟨tg, e, ifs, 0⟩] scope pos) r G Q :=
  WE.wkp (fun F0 T F H σ lk S => Run.of (pe_dcg (dst_kd (by omega)) hc hN piR ok ⟨blkG_ok, blkT_ok, blkE_ok, blkE_ok⟩ hs) (kcI lk S h))
end
open Out (Rt)
mutual
theorem nk_as {h : Heap} : ∀ (d : PyData) {v : Value} {as : List Addr}, nkB d = true → Reads h v d as → as = []
  | .int i, _, _, _, .int _ t => rfl
  | .bool b, _, _, _, .bool _ => rfl
  | .str x, _, _, _, .str _ t => rfl
  | .none, _, _, _, .none => rfl
  | .tuple ds, _, _, hb, .tuple h1 h2 h3 h4 => nk_asAll ds hb h4
theorem nk_asAll {h : Heap} : ∀ (ds : List PyData) {vs : List Value} {as : List Addr}, nkBs ds = true → ReadsAll h vs ds as → as = []
  | [], _, _, _, .nil => rfl
  | d :: ds, _, _, hb, .cons h1 h2 => by
    have hb : (nkB d && nkBs ds) = true := hb
    rw [Bool.and_eq_true] at hb
    rw [nk_as d hb.1 h1, nk_asAll ds hb.2 h2]; rfl
end
section
variable {X : Cx}
theorem keys_each {K : PySem.W.Frag} {H : Hp} {β : Type} {P : V → β → Prop} : ∀ {xs : List KdE} {ys : List (NestedKey × Addr × Value)} {bs : List β}, Paired KdR xs ys → Paired P (xs.map fun x => V.ref x.2.1) bs → PySem.W.EachIs (fun u b => ∃ x, RelV x u ∧ P x b) (ys.map fun y => Value.ref y.2.1) bs
  | [], _, _, .nil, .nil => .nil
  | x :: xs, _, _, .cons h t, .cons p q => .cons ⟨V.ref x.2.1, by show Value.ref _ = Value.ref _; rw [h.2.1], p⟩ (keys_each (K := K) (H := H) t q)
/-- sorted(d), d a dict with keys that read as data -/
theorem call_sortedKd {β : Type} {enc : β → PyData} (hcalm : X.calm = true) (hu : X.A.units + 64 < cLine) : CallR X (.builtin "sorted") (fun vs H Q => ∃ (a : Addr) (xs : List KdE) (bs : List β) (P : V → β → Prop), vs = [V.ref a] ∧ KdRd X.w H a xs ∧ Paired P (xs.map fun x => V.ref x.2.1) bs ∧ (∀ x b, P x b → Dp X.K H x (enc b)) ∧ (∀ b, nkB (enc b) = true) ∧
    PySem.W.AllAlike (bs.map enc) ∧ PySem.W.Sortable (bs.map enc) ∧ (∀ b ∈ bs, (enc b).depth ≤ 60) ∧ ∀ ys p, Paired P ys (bs.mergeSort (PySem.W.dataLe false enc)) → H p = none → Q (.ref p) (upd H p (.lst ys))) := by
  intro pins s σ H vs us Q I r q
  obtain ⟨a, xs, bs, P, rfl, hd, hP, hx, hnk, hal, hso, hdp, q⟩ := q
  obtain ⟨u, rfl, rx⟩ := vals1 r
  cases rx
  obtain ⟨lo, hz, _, ys, o, es, ep, g0, g1, g2, g3, g4⟩ := kd_at I.hok hd
  have hsz : es.size = xs.length := by rw [← Array.length_toList, g4, List.length_map]; exact (Paired.length g0).symm
  refine Calls.call_function_entry PyProof.Rows.kind_sorted PyProof.Rows.plain_sorted PyProof.Rows.entry_sorted (PyProof.Rows.args_sorted1 _) ?_
  unfold Builtin.«sorted»
  refine wpAny_bind (m := checkCount "sorted" 1 1 _) (wpAny_pure ?_)
  refine wpAny_bind (PySem.W.kdu_collect (A := X.A.in1) (kdl_raw lo g2 g3) (I.ok.hd hcalm) g1 (by rw [hsz]; exact hz) fun h' tk acc hk hacc => ?_)
  have hal' : acc.toList = ys.map fun y => Value.ref y.2.1 := by
    refine List.ext_getElem? fun j => ?_
    rw [Array.getElem?_toList]
    cases e : acc[j]? with
    | none =>
      have h1 : acc.size ≤ j := Array.getElem?_eq_none_iff.mp e
      rw [hacc.1, hsz, Paired.length g0] at h1
      rw [List.getElem?_eq_none (by rw [List.length_map]; exact h1)]
    | some v =>
      obtain ⟨en, e1, e2⟩ := hacc.2 j v e
      rw [← Array.getElem?_toList, g4, List.getElem?_map] at e1
      cases e3 : ys[j]? with
      | none => rw [e3] at e1; cases e1
      | some y => rw [e3] at e1; cases e1; rw [List.getElem?_map, e3, e2]; rfl
  have hlen : acc.toList.length = bs.length := by rw [hal', List.length_map, ← Paired.length g0]; have := Paired.length hP; rw [List.length_map] at this; exact this
  have hbs : bs.length ≤ sizeLine := by have := Paired.length hP; rw [List.length_map] at this; omega
  have I1 : Inv X pins σ H { s with heap := h', toks := tk } := I.kept hk
  have eR : PySem.W.EachIs (fun u b => ∃ x, RelV x u ∧ P x b) acc.toList bs := by rw [hal']; exact keys_each (K := X.K) (H := H) g0 hP
  refine wpAny_bind (wpAny_newList ?_ (by rw [hlen]; exact hbs))
  have hoL : (h'.push (seqObj "list" acc.toList.toArray 0)).get? h'.objs.size = some (seqObj "list" acc.toList.toArray 0) := Heap.get?_push_size _ rfl
  show wpAny _ _ _ _ _ { s with heap := h'.push (seqObj "list" acc.toList.toArray 0), toks := tk }
  have er : PySem.W.EachIs (fun v b => ∃ as, Reads (h'.push (seqObj "list" acc.toList.toArray 0)) v (enc b) as ∧ h'.objs.size ∉ as) acc.toList bs := eR.mono fun v b ⟨x, rx, hp⟩ => by
    obtain ⟨as, hr⟩ := Dp.reads I1 _ x v (hx x b hp) rx
    refine ⟨as, PyProof.Rows.Reads.keeps (fun _ _ e => Heap.get?_push_of_some _ e) hr, ?_⟩
    rw [nk_as _ (hnk b) hr]; exact fun z => nomatch z
  refine wpAny_bind (wpAny_holding (PySem.W.list_sort_data (s := { s with heap := h'.push (seqObj "list" acc.toList.toArray 0), toks := tk }) hoL eR er hal hso hbs (fun b hb => by have := hdp b hb; have : X.A.in1.units = X.A.units + 1 := rfl; omega) fun out g5 g6 => ?_))
  obtain ⟨zs, v1, v2⟩ := of_each g6
  obtain ⟨e', he'⟩ := PyProof.Rows.sortedHeap_at (vs := acc.toList) (out := out.toArray) hoL
  have hzl : zs.length ≤ sizeLine := by rw [v1.length, g5]; exact hbs
  refine wpAny_pure ⟨_, rfl, .ref h'.objs.size, upd H h'.objs.size (.lst zs), I1.laid (t' := tk) (fun b u e => ?_) (Nat.le_refl _) (show ObjOk X.prog X.w _ _ _ (.lst zs) from ⟨hzl, out, e', v1, he'⟩), rfl, q _ _ v2 (I1.hok.fresh (Nat.le_refl _))⟩
  have hb : b < h'.objs.size := Heap.lt_size e
  rw [PyProof.Rows.sortedHeap_old (Nat.ne_of_lt hb) (by rw [size_push']; exact Nat.lt_succ_of_lt hb)]
  exact Heap.get?_push_of_some _ e
end
open Out (Rt)
section
variable {X : Cy} {e a b c o tg kx vx elt i : Expr} {es ifs : List Expr} {st : Stmt} {sts rest body orelse : List Stmt} {r : Env2} {G : GD} {pos tpos apos cpos p0 : Pos} {D0 : EndsD} {α β γ σT ρ κ ν : Type} [DecidableEq κ] {ek : κ → D} {f : ν → D}
theorem krep_keys {K : PySem.W.Frag} {F : Hp} : ∀ {kvs : List (κ × ν)} {us : List KdE}, KRep K F (eKl ek f kvs) us → Paired (fun v a => Rep K F (ek a) v) (us.map fun x => V.ref x.2.1) (kvs.map (·.1))
  | [], _, h => by rw [show _ = [] from h]; exact .nil
  | p :: kvs, _, ⟨u, us', h1, h2, h3, h4, h5⟩ => by subst h1; exact .cons h3 (krep_keys h5)
theorem t_sortedKd {n : Nat} (hk : KyC ek) (ho : OrC ek n) (hc : X.calm = true) (hu : X.A.units + 64 < cLine) (kvs : List (κ × ν)) (hso : PySem.W.Sortable ((kvs.map (·.1)).map fun a => toP (ek a))) {Q : Res → Prop} (q : Q (.fr (.lst ((dsort ek (kvs.map (·.1))).map ek)))) (hn : n ≤ 60 := by decide) :
    CallW1 X (.builtin "sorted") (eKd X.w ek f kvs) Q := fun F0 T F G H r σ v S hv => by
  rw [← eKd_kdD] at hv
  obtain ⟨p, us, rfl, dr, rd⟩ := kdD_vw S.bas.fh hv
  refine ⟨_, call_sortedKd (enc := fun a : κ => toP (ek a)) hc hu, p, us, kvs.map (·.1), _, rfl, rd, krep_keys dr, fun x a rp => ho.dpv S.bas.fh (.inl rp), fun a => (hk.ky a).nb, PySem.W.AllAlike.of ho.al, hso, fun a _ => Nat.le_trans (ho.dp a) hn, fun ys l hy hl => ?_⟩
  rw [leC_data] at hy
  exact new_lst S (paired_repl hy) hl q
end
section
variable {K : PySem.W.Frag} {F0 T F H : Hp} {G : GD} {r : Env2} {σ : L2.St}
theorem Sta.lockG (S : Sta K F0 T F G H r σ) {p : Addr} {u : HO} {o : Obj} {d : D} (h1 : F p = none) (h2 : G p = none) (h3 : T p = none) (h4 : ∀ (i : Nat) (e : D), r[i]? = some (.own e) → σ[i]? ≠ some (some (.ref p))) (hr : Rep K (upd F p (.frz o u)) d (.ref p)) :
    Ex F (upd F p (.frz o u)) ∧ Sta K F0 T (upd F p (.frz o u)) G (upd H p (.frz o u)) r σ ∧ Rep K (upd F p (.frz o u)) d (.ref p) := by
  have ef : Ex F (upd F p (.frz o u)) := Ex.new h1
  refine ⟨ef, ⟨(S.bas.put h1 h2 h3).frz upd_same h1 h2 h3, S.len, fun i s e => ?_, S.ap⟩, hr⟩
  have q := S.sl i s e
  cases s with
  | no => trivial
  | sh d => obtain ⟨v, q1, q2⟩ := q; exact ⟨v, q1, Rep.mono ef _ _ q2⟩
  | own d =>
    obtain ⟨p', q1, q2, q3, q4, q5⟩ := q
    have hne : p' ≠ p := fun z => by subst z; exact h4 i d e q1
    exact ⟨p', q1, q2.mono ef fun u hu => by rw [upd_ne hne]; exact hu, by rw [upd_ne hne]; exact q3, q4, q5⟩
theorem rep_lockK {w : World} {ks ds : List D} {p : Addr} {us : List KdE} {o : Obj} (h1 : F p = none) (z1 : us.map (·.1) = nkDs ks) (z2 : RepL K F ks (us.map fun e => .ref e.2.1)) (z3 : RepL K F ds (us.map (·.2.2))) : Rep K (upd F p (.frz o (KdO w p us))) (.kd w ks ds) (.ref p) :=
  ⟨p, o, us, rfl, upd_same, z1, RepL.mono (Ex.new h1) _ _ z2, RepL.mono (Ex.new h1) _ _ z3⟩
theorem Sta.lockSlotK (S : Sta K F0 T F G H r σ) {i : Nat} {w : World} {ks ds : List D} (h : r[i]? = some (.own (.kd w ks ds))) : ∃ p us, H p = some (KdO w p us) ∧ σ[i]? = some (some (.ref p)) ∧ ∀ o,
    ∃ F', Ex F F' ∧ Sta K F0 T F' G (upd H p (.frz o (KdO w p us))) (r.set i (.sh (.kd w ks ds))) σ ∧ Rep K F' (.kd w ks ds) (.ref p) := by
  obtain ⟨p, h1, ⟨us, z0, z1, z2, z3⟩, h3, h4, h5⟩ := S.ownS h
  have hi : i < r.length := (List.getElem?_eq_some_iff.mp h).1
  refine ⟨p, us, z0, h1, fun o => ?_⟩
  have S0 : Sta K F0 T F G H (r.set i .no) σ := by
    refine ⟨S.bas, by rw [List.length_set]; exact S.len, fun j s e => ?_, fun j k d e hjk ej ek => ?_⟩
    · by_cases hj : i = j
      · subst hj; rw [List.getElem?_set_self hi] at e; cases e; trivial
      · rw [List.getElem?_set_ne hj] at e; exact S.sl j s e
    · by_cases hj : i = j
      · subst hj; rw [List.getElem?_set_self hi] at ej; cases ej
      · by_cases hk : i = k
        · subst hk; rw [List.getElem?_set_self hi] at ek; cases ek
        · rw [List.getElem?_set_ne hj] at ej
          rw [List.getElem?_set_ne hk] at ek
          exact S.ap j k d e hjk ej ek
  obtain ⟨ef, S2, rp⟩ := S0.lockG (o := o) (u := KdO w p us) h3 h4 h5 (fun j e hj zz => by
    by_cases hij : i = j
    · subst hij; rw [List.getElem?_set_self hi] at hj; cases hj
    · rw [List.getElem?_set_ne hij] at hj
      exact S.ap i j _ e hij h hj (h1.trans zz.symm)) (rep_lockK h3 z1 z2 z3)
  refine ⟨_, ef, ?_, rp⟩
  have := S2.set (i := i) (s := .sh (.kd w ks ds)) (v := .ref p) (by rw [List.length_set]; exact hi) ⟨_, rfl, rp⟩ fun d z => nomatch z
  rw [List.set_set] at this
  have hσ : σ.set i (some (.ref p)) = σ := by
    refine List.ext_getElem? fun j => ?_
    by_cases hj : i = j
    · subst hj
      have hl : i < σ.length := by rw [← S.len]; exact hi
      rw [List.getElem?_set_self hl, h1]
    · rw [List.getElem?_set_ne hj]
  rw [hσ] at this
  exact this
end
section
variable {X : Cy} {e : Expr} {sts : List Stmt} {r : Env2} {G : GD} {D0 : EndsD} {w : World} {ks ds : List D}
theorem we_lockK {Q : Res → Env2 → GD → Prop} (h : WE X e r G fun x r1 G1 => ∃ w ks ds, x = .fr (.kd w ks ds) ∧ Q (.sh (.kd w ks ds)) r1 G1) : WE X e r G Q := fun F0 T F H σ lk S pins s I =>
  wpAny_mono (h F0 T F H σ lk S pins s I) (fun u s' ⟨v, H', I', rv, x, r1, G1, F1, e1, S1, k1, w, ks, ds, hx, q⟩ => by
    subst hx
    obtain ⟨p, rfl, ⟨us, z0, z1, z2, z3⟩, h3, h4, h5, h6⟩ := k1
    obtain ⟨o, I2⟩ := I'.lock z0 (by first | trivial | exact .inl rfl | decide)
    obtain ⟨ef, S2, rp⟩ := S1.lockG (o := o) (u := KdO w p us) h3 h4 h5 h6 (rep_lockK h3 z1 z2 z3)
    exact ⟨.ref p, _, I2, rv, .sh (.kd w ks ds), r1, G1, _, e1.trans ef, S2, rp, q⟩) fun _ _ x => x
theorem we_lockVK {Q : Res → Env2 → GD → Prop} (h : WE X e r G fun x r1 G1 => ∃ i w ks ds, x = .pk i ∧ r1[i]? = some (.own (.kd w ks ds)) ∧ Q (.sh (.kd w ks ds)) (r1.set i (.sh (.kd w ks ds))) G1) : WE X e r G Q := fun F0 T F H σ lk S pins s I =>
  wpAny_mono (h F0 T F H σ lk S pins s I) (fun u s' ⟨v, H', I', rv, x, r1, G1, F1, e1, S1, k1, i, w, ks, ds, hx, hi, q⟩ => by
    subst hx
    obtain ⟨p, us, z1, z2, hz⟩ := S1.lockSlotK hi
    obtain ⟨k2, _⟩ := k1
    rw [k2] at z2; cases z2
    obtain ⟨o, I2⟩ := I'.lock z1 (by first | trivial | exact .inl rfl | decide)
    obtain ⟨F', ef, S2, rp⟩ := hz o
    exact ⟨.ref p, _, I2, rv, .sh (.kd w ks ds), _, G1, F', e1.trans ef, S2, rp, q⟩) fun _ _ x => x
end
open Out (Rt)
section
variable {X : Cy} {e a b c o tg kx vx elt i : Expr} {es ifs : List Expr} {st : Stmt} {sts rest body orelse : List Stmt} {r : Env2} {G : GD} {pos tpos apos cpos p0 : Pos} {D0 : EndsD} {α β γ σT ρ κ ν : Type} [DecidableEq κ] {ek : κ → D} {f : ν → D}
/-- what walks the values xs, d locked -/
def ItLk (d : Addr) (o : Obj) (u : HO) (xs : List V) : It :=
  ⟨fun i H => H d = some (.frz o u) ∧ i < xs.length, fun i H x H' => H' = H ∧ xs[i]? = some x, fun i H => H d = some (.frz o u) ∧ xs.length ≤ i⟩
/-- a locked dict of entries: its object -/
theorem kd_locked {X : Cx} {pins : List (Addr × Obj)} {σ : L2.St} {H : Hp} {s : Shared} {d : Addr} {o : Obj} {us : List KdE} (I : Inv X pins σ H s) (h : H d = some (.frz o (KdO X.w d us))) :
    (d == sysModules) = false ∧ s.heap.get? d = some o ∧ o.ExactDict ∧ us.length ≤ sizeLine ∧ ∃ (es : Array DictEntry) (ep : Nat), o.data = .dict es ep ∧ es.size = us.length ∧
      ∀ (i : Nat) (u : KdE), us[i]? = some u → ∃ en : DictEntry, es[i]? = some en ∧ RelV (.ref u.2.1) en.key ∧ RelV u.2.2 en.val := by
  obtain ⟨hd, ⟨h1, h2, _, ys, o', es, ep, g0, g1, g2, g3, g4⟩, _⟩ := I.hok d _ h
  rw [hd] at g1
  cases g1
  have hsz : es.size = us.length := by rw [← Array.length_toList, g4, List.length_map]; exact (Paired.length g0).symm
  refine ⟨h1, hd, g2, h2, es, ep, g3, hsz, fun i u hu => ?_⟩
  obtain ⟨y, hy, hr⟩ := paired_get g0 hu
  refine ⟨⟨y.1.hash X.w, .ref y.2.1, y.2.2⟩, by rw [← Array.getElem?_toList, g4, List.getElem?_map, hy]; rfl, ?_, hr.2.2⟩
  show Value.ref y.2.1 = Value.ref u.2.1
  rw [hr.2.1]
theorem turn_kd {P : Program} {w : World} {K : PySem.W.Frag} {tg : Expr} {d : Addr} {o : Obj} {es : Array DictEntry} {ep : Nat} {us : List KdE} (it : Addr) (hod : o.data = .dict es ep) :
    Turn P w K tg (ItLk d o (KdO w d us) (us.map fun x => .ref x.2.1)) [it] it (fun i h => h.IsKeyIter it d i us.length ep) where
  mem := by simp
  obj := fun i h st b hb => by
    have e : b = it := by simpa using hb
    subst e
    obtain ⟨oi, e, c, dd⟩ := st
    exact ⟨oi, e, fun v z => by rw [dd] at z; cases z⟩
  keep := fun i h h' st k => st.at fun oi e => k it (by simp) oi e
  item := by
    intro X hP hw hK hc i pins s σ H E I hf st ⟨hd, hi⟩
    subst hP hw hK
    obtain ⟨f0, f1, f2, f3, f4, f5⟩ := hf it (by simp)
    obtain ⟨_, hgd, hx, _, es', ep', hdt, hsz, ent⟩ := kd_locked I hd
    obtain ⟨rfl, rfl⟩ := dict_ep hod hdt
    rw [List.length_map] at hi
    obtain ⟨en, hen, hkey, _⟩ := ent i us[i] (List.getElem?_eq_getElem hi)
    refine next_key_item st hgd hdt hsz hen fun h' st' sb => ?_
    have I1 : Inv X pins σ H { s with heap := h' } := I.turned (t' := s.toks) (fun b ob hb e => (sb.2 b hb).trans e) f0 f1 f3 f4 f5
    obtain ⟨oi, e, c, dd⟩ := id st'
    exact ⟨en.key, rfl, go_of (s := { s with heap := h' }) e c dd (by decide) ⟨.ref us[i].2.1, H, I1, hkey, ⟨rfl, by rw [List.getElem?_map, List.getElem?_eq_getElem hi]; rfl⟩, st', fun b hb => (hf b hb).1⟩⟩
  done := by
    intro X hP hw hK hc i pins s σ H E I hf st ⟨hd, hi⟩
    subst hP hw hK
    obtain ⟨f0, f1, f2, f3, f4, f5⟩ := hf it (by simp)
    obtain ⟨hs, hgd, hx, _, es', ep', hdt, hsz, ent⟩ := kd_locked I hd
    obtain ⟨rfl, rfl⟩ := dict_ep hod hdt
    rw [List.length_map] at hi
    exact next_key_end (I.ok.hd hc) st hgd hdt hsz hi fun h' eb => ⟨rfl, I.turned (t' := s.toks) (fun b ob hb e => eb b ob hb e) f0 f1 f3 f4 f5⟩
  self := fun A i s Q E st h => by
    refine wpAny_pyIter_slot st.typeIs PySem.F.slot_dict_keyiterator_iter (wpAny_call_entry PySem.F.slot_dict_keyiterator_iter st.typeIs PySem.F.entry_dict_keyiterator_iter ?_ (PySem.F.args_dict_keyiterator_iter_1 _))
    show wpAny _ _ (ret (.ref it)) _ _ s
    exact wpAny_pure ⟨_, rfl, "dict_keyiterator", _, st.typeIs, PySem.F.slot_dict_keyiterator_next.lookup, h⟩
theorem pi_kd {X : Cx} {tg e : Expr} {td : TE} (he : PE X e td) : PI X tg e (fun σ H R => td σ H fun v H1 => ∃ d o us, v = .ref d ∧ H1 d = some (.frz o (KdO X.w d us)) ∧ R (ItLk d o (KdO X.w d us) (us.map fun x => .ref x.2.1)) H1) := by
  refine ⟨fun pins s σ H R I h => ?_⟩
  refine thn (he.run pins s σ H _ I h) fun u s1 ⟨x, H1, I1, rx, d, o, us, ex, hd, q⟩ => ?_
  subst ex
  obtain rfl : u = Value.ref d := rx
  obtain ⟨hs, hgd, hx, _, es, ep, hdt, hsz, _⟩ := kd_locked I1 hd
  refine iter_keys hs hgd hx hdt (pi_one (tk := s1.toks) I1 _ (turn_kd _ hdt) ⟨_, Heap.get?_push_size _ rfl, rfl, ?_⟩ q)
  rw [hsz] <;> rfl
theorem fz_dic {r r2 : Env2} {x : Res} {d : D} (hD : isDic d = true) (e : fz r x = some (d, r2)) : r2 = r ∧ ∃ d', x = .sh d' ∧ d' = d := by
  cases x with
  | sh d' =>
    have e' : some (d', r) = some (d, r2) := e
    cases e'; exact ⟨rfl, d, rfl, rfl⟩
  | fr d' =>
    have e' : (if isDic d' then none else some (d', r)) = some (d, r2) := e
    split at e'
    · cases e'
    · rename_i h; cases e'; exact absurd hD h
  | pk i =>
    have e' : (match r[i]? with | some (.own d) => if isDic d then none else some (d, r.set i (.sh d)) | _ => none) = some (d, r2) := e
    split at e'
    · split at e'
      · cases e'
      · rename_i h; cases e'; exact absurd hD h
    · cases e'
theorem itd_lk {K : PySem.W.Frag} {Fa : Hp} {d : Addr} {o : Obj} {u : HO} {xs : List V} {ds : List D} (hd : Fa d = some (.frz o u)) (hr : RepL K Fa ds xs) : ItD K (ItLk d o u xs) Fa ds := fun F H ea eh =>
  ⟨⟨eh _ _ (ea _ _ hd), by rw [hr.length]; exact Nat.le_refl _⟩, fun i d' hi => by
    obtain ⟨v, h1, h2⟩ := hr.get hi
    refine ⟨⟨eh _ _ (ea _ _ hd), (List.getElem?_eq_some_iff.mp h1).1⟩, fun x H' ⟨hH, hx⟩ => .inl ⟨hH, ?_⟩⟩
    rw [h1] at hx; cases hx
    exact Rep.mono ea _ _ h2⟩
theorem Run.blK {X : Cx} {e : Expr} {σ : L2.St} {H : Hp} {Q : VK} (h : Run X e σ H Q) : Run X e σ H fun v H' => (∀ a us, KdRd X.w H' a us → us.length ≤ LIM) ∧ Q v H' := fun pins s I =>
  wpAny_mono (h pins s I) (fun _ _ ⟨v, H', I', r, q⟩ => ⟨v, H', I', r, fun a us hd => lim_of (kd_at I'.hok hd).2.1, q⟩) fun _ _ x => x
theorem wi_kd {Q : List D → Env2 → GD → Prop} (h : WE X e r G fun x r1 G1 => ∃ ks ds r2, fz r1 x = some (.kd X.w ks ds, r2) ∧ (ks.length ≤ LIM → Q ks r2 G1)) : WI X tg e r G Q := fun F0 T F H σ lk S =>
  RunI.of (pi_kd peR) ((h F0 T F H σ lk S).blK.mono fun v H1 ⟨bl, x, r1, G1, F1, e1, S1, k1, ks, ds, r2, q1, q2⟩ => by
    obtain ⟨rfl, d', rfl, rfl⟩ := fz_dic rfl q1
    obtain ⟨a, ob, us, rfl, z1, z2, z3, z4⟩ := k1
    have hl : ks.length = us.length := by have := z3.length; rw [List.length_map] at this; exact this.symm
    exact ⟨a, ob, us, rfl, S1.bas.fh _ _ z1, ks, r2, G1, F1, e1, S1, itd_lk z1 z3, q2 (by rw [hl]; exact bl a us (.inr ⟨ob, S1.bas.fh _ _ z1⟩))⟩)
theorem ti_keysK {Q : List D → Env2 → GD → Prop} (h : WE X e r G fun x r1 G1 => ∃ kvs r2, fz r1 x = some (eKd X.w ek f kvs, r2) ∧ ((kvs.map (·.1)).length ≤ LIM → Q ((kvs.map (·.1)).map ek) r2 G1)) : WI X tg e r G Q :=
  wi_kd (h.mono fun x r1 G1 ⟨kvs, r2, h1, h2⟩ => ⟨_, _, r2, h1, fun hl => by
    rw [List.length_map] at hl
    have := h2 (by rw [List.length_map]; exact hl)
    rw [List.map_map] at this
    exact this⟩)
end
open Out (Rt)
open Out (Rt)
theorem Wk.trans {a b c : Env2} (w : Wk a b) : Wk b c → Wk a c := by
  induction w generalizing c with
  | nil => intro v; cases v; exact .nil
  | no _ ih => intro v; cases v with
    | no v => exact .no (ih v)
    | eq v => exact .no (ih v)
  | eq _ ih => intro v; cases v with
    | no v => exact .no (ih v)
    | eq v => exact .eq (ih v)
open Out (Rt)
open Out (Rt)
open Out (Rt)
theorem sorts_one {prog : Program} {w : World} {A : Around} {s : Shared} {vs : List Value} {ds : List PyData} (e : PySem.W.EachIs (fun v d => ∃ as, Reads s.heap v d as) vs ds) (hal : PySem.W.AllAlike ds) (hl : vs.length ≤ 1) (hn : ∀ d ∈ ds, d ≠ .none) (hu : ∀ d, d ∈ ds → A.units + d.depth < cLine) :
    PySem.W.SortsAt prog w A s (PySem.W.dataKind s.heap ds) vs := by
  have room : ∀ {d d' : PyData}, d ∈ ds → A.units + min d.depth d'.depth < cLine := fun {d d'} hd => Nat.lt_of_le_of_lt (Nat.add_le_add_left (Nat.min_le_left _ _) _) (hu d hd)
  refine ⟨fun v hv => ?_, general', ?_, fun h2 => absurd h2 (by omega)⟩
  · obtain ⟨d, hd, as, r⟩ := e.left v hv
    exact ⟨_, PySem.W.dataKind_some hal hd r⟩
  · intro E x y a b Q ha hb hq
    obtain ⟨d, as, hd, ra, rfl⟩ := PySem.W.dataKind_inv ha
    obtain ⟨d', as', hd', rb, rfl⟩ := PySem.W.dataKind_inv hb
    show wpAny _ _ (oneLt' false x y) _ _ _
    exact PySem.W.oneLt_alike (fun z => nomatch z) ra rb (hal d hd d' hd') (hn d hd) (room hd) hq
theorem sorted_data1 {prog : Program} {w : World} {A : Around} {s : Shared} {E : Value → Shared → Prop} {β : Type} {enc : β → PyData} {R : Value → β → Prop} {vs : List Value} {bs : List β} {l : Addr} {Q : Value → Shared → Prop} (hl : s.heap.IsList l vs.toArray) (e : PySem.W.EachIs R vs bs) (er : PySem.W.EachIs (fun v b => ∃ as, Reads s.heap v (enc b) as) vs bs) (hal : PySem.W.AllAlike (bs.map enc)) (h1 : bs.length ≤ 1) (hn : ∀ b ∈ bs, enc b ≠ .none)
    (hu : ∀ b, b ∈ bs → A.units + 2 + (enc b).depth < cLine) (h : ∀ out, out.length = bs.length → PySem.W.EachIs R out (bs.mergeSort (PySem.W.dataLe false enc)) → Q (.ref (s.heap.objs.size + 1)) { s with heap := sortedAll s.heap vs (List.toArray out) }) :
    wpAny (model prog w) A (call (.builtin "sorted") [.ref l]) Q E s := by
  have er' : PySem.W.EachIs (fun v b => ∃ as, Reads (PySem.W.sortingHeap (PySem.W.copyHeap s.heap vs) (s.heap.objs.size + 1) vs) v (enc b) as) vs bs := er.mono fun _ _ ⟨as, r⟩ => ⟨as, PyProof.Rows.Reads.keeps (fun _ _ => PySem.W.sorting_copy_old) r⟩
  have hL : vs.length ≤ sizeLine := by rw [e.length]; exact Nat.le_trans h1 (by decide)
  exact PySem.W.sorted_vals hl (sorts_one (s := { s with heap := PySem.W.sortingHeap (PySem.W.copyHeap s.heap vs) (s.heap.objs.size + 1) vs }) (PySem.W.each_map (R := fun v d => ∃ as, Reads (PySem.W.sortingHeap (PySem.W.copyHeap s.heap vs) (s.heap.objs.size + 1) vs) v d as) enc er') hal (by rw [e.length]; exact h1) (fun d hd => by
    obtain ⟨b, hb, rfl⟩ := List.mem_map.mp hd
    exact hn b hb) (PySem.W.bound_map hu)) hL
    (h _ (by rw [PySem.W.sortVals_length false rfl]; exact e.length) (PySem.W.sortVals_data false e er' hal))
section
variable {X : Cy} {α : Type} {en : α → D} {n : Nat} {Q : Res → Prop}
theorem cr_sorted1 {X : Cx} {β : Type} {enc : β → PyData} (hu : X.A.units + 64 < cLine) : CallR X (.builtin "sorted") (fun vs H Q => ∃ (a : Addr) (xs : List V) (bs : List β) (P : V → β → Prop), vs = [V.ref a] ∧ SqL X.K H a xs ∧ Paired P xs bs ∧ (∀ x b, P x b → Dp X.K H x (enc b)) ∧ PySem.W.AllAlike (bs.map enc) ∧ bs.length ≤ 1 ∧ (∀ b ∈ bs, enc b ≠ .none) ∧ (∀ b ∈ bs, (enc b).depth ≤ 60) ∧
    ∀ ys p, Paired P ys (bs.mergeSort (PySem.W.dataLe false enc)) → H p = none → Q (.ref p) (upd H p (.lst ys))) := by
  intro pins s σ H vs us Q I r h
  obtain ⟨a, xs, bs, P, rfl, hs, hP, hx, hal, h1, hn, hdp, q⟩ := h
  obtain ⟨its, rv, hl, hz⟩ := I.list hs
  obtain ⟨u, rfl, ru⟩ := vals1 r
  obtain rfl : u = Value.ref a := ru
  have e := each_of rv hP
  have er : PySem.W.EachIs (fun u b => ∃ as, Reads s.heap u (enc b) as) its bs := e.mono fun u b ⟨x, rx, hp⟩ => Dp.reads I _ x u (hx x b hp) rx
  refine sorted_data1 (enc := enc) hl.isList e er hal h1 hn (fun b hb => by have := hdp b hb; omega) fun out ho hout => ?_
  obtain ⟨ys, v1, v2⟩ := of_each hout
  obtain ⟨k, hk⟩ := sortedAll_at s.heap its out.toArray
  refine ⟨.ref (s.heap.objs.size + 1), upd H (s.heap.objs.size + 1) (.lst ys), I.laid (t' := s.toks) (fun b o e => sortedAll_old e) (Nat.le_succ _) ⟨?_, out, k, v1, hk⟩, rfl, q ys _ v2 (I.hok.fresh (Nat.le_succ _))⟩
  rw [v1.length, ho, ← e.length, ← rv.length]; exact hz
theorem t_sortedT01 {en : α → D} (h : OrC (eT en) n) (hu : X.A.units + 64 < cLine) (xs : List (List α)) (hso : xs.length ≤ 1 ∨ xs.all (fun x => !x.isEmpty) = true) (q : Q (.fr (.lst ((dsort (eT en) xs).map (eT en))))) (hn : n ≤ 60 := by decide) : CallW1 X (.builtin "sorted") (.lst (xs.map (eT en))) Q := by
  rcases hso with h1 | h1
  · intro F0 T F G H r σ v S hv
    obtain ⟨p, vs, rfl, h2, h3⟩ := hv.lst S.bas.fh
    refine ⟨_, cr_sorted1 (enc := fun a : List α => toP (eT en a)) hu, p, vs, xs, _, rfl, .inl h2, repl_paired h3, fun x a rp => h.dpv S.bas.fh (.inl rp), PySem.W.AllAlike.of h.al, h1, (fun b _ z => nomatch z), fun a _ => Nat.le_trans (h.dp a) hn, fun ys l hy hl => ?_⟩
    rw [leC_data] at hy
    exact new_lst S (paired_repl hy) hl q
  · exact t_sortedC h hu xs (so_tup h1) q hn
end
open Out (Rt)
open Out (Rt)
section
variable {X : Cy} {e a b c o : Expr} {es : List Expr} {st : Stmt} {sts rest : List Stmt} {r : Env2} {G : GD} {pos apos p0 : Pos} {D0 : EndsD}
def putAD (f : Str) (d : D) : List Str → List D → List D
  | g :: r, x :: ds => if g = f then d :: ds else x :: putAD f d r ds
  | _, _ => [d]
end
open Out (Rt)
open Out (Rt)
abbrev As := List Addr → GD → Prop
structure AOk (P : As) : Prop where
  dom : ∀ fp G, P fp G → ∀ a ∈ fp, ∃ d, G a = some d
  loc : ∀ fp G G', P fp G → (∀ a ∈ fp, G' a = G a) → P fp G'
/-- what a step leaves: all else is as it was, what is new was not there -/
def Frm (fp : List Addr) (G : GD) (fp' : List Addr) (G' : GD) : Prop := (∀ b, b ∉ fp → G b ≠ none → G' b = G b) ∧ ∀ b ∈ fp', b ∈ fp ∨ G b = none
theorem Frm.refl (fp : List Addr) (G : GD) : Frm fp G fp G := ⟨fun _ _ _ => rfl, fun _ h => .inl h⟩
theorem Frm.trans {a b c : List Addr} {G G' G'' : GD} (h : Frm a G b G') (k : Frm b G' c G'') : Frm a G c G'' := by
  refine ⟨fun x hx hg => ?_, fun x hx => ?_⟩
  · have e := h.1 x hx hg
    have hb : x ∉ b := fun z => by
      rcases h.2 x z with y | y
      · exact hx y
      · exact hg y
    rw [k.1 x hb (by rw [e]; exact hg), e]
  · rcases k.2 x hx with y | y
    · exact h.2 x y
    · by_cases z : x ∈ a
      · exact .inl z
      · right
        cases e : G x with
        | none => rfl
        | some d =>
          have := h.1 x z (by rw [e]; exact fun w => nomatch w)
          rw [y, e] at this; cases this
def GS (Ps : List As) (G : GD) : Prop := ∃ fps : List (List Addr), fps.length = Ps.length ∧ (∀ (i : Nat) (P : As) (fp : List Addr), Ps[i]? = some P → fps[i]? = some fp → AOk P ∧ P fp G) ∧ ∀ (i j : Nat) (fp fq : List Addr), i ≠ j → fps[i]? = some fp → fps[j]? = some fq → ∀ a ∈ fp, a ∉ fq
theorem GS.nil (G : GD) : GS [] G := ⟨[], rfl, fun i P fp h => by simp at h, fun i j fp fq _ h => by simp at h⟩
/-- one of the parts is changed -/
theorem GS.at {Ps : List As} {G : GD} (h : GS Ps G) (i : Nat) {P : As} (hi : Ps[i]? = some P) : ∃ fp, AOk P ∧ P fp G ∧ ∀ (P' : As) (fp' : List Addr) (G' : GD), AOk P' → P' fp' G' → Frm fp G fp' G' → GS (Ps.set i P') G' := by
  obtain ⟨fps, h1, h2, h3⟩ := h
  have hlt : i < Ps.length := (List.getElem?_eq_some_iff.mp hi).1
  obtain ⟨fp, hfp⟩ : ∃ fp, fps[i]? = some fp := ⟨_, List.getElem?_eq_getElem (by omega)⟩
  obtain ⟨k1, k2⟩ := h2 i P fp hi hfp
  refine ⟨fp, k1, k2, fun P' fp' G' q1 q2 q3 => ⟨fps.set i fp', by rw [List.length_set, List.length_set, h1], fun j Q fq hQ hq => ?_, fun j l fq fr hjl hq hr a ha hb => ?_⟩⟩
  · by_cases e : i = j
    · subst e
      rw [List.getElem?_set_self hlt] at hQ
      rw [List.getElem?_set_self (by omega)] at hq
      cases hQ; cases hq; exact ⟨q1, q2⟩
    · rw [List.getElem?_set_ne e] at hQ hq
      obtain ⟨m1, m2⟩ := h2 j Q fq hQ hq
      refine ⟨m1, m1.loc fq G G' m2 fun a ha => q3.1 a (h3 j i fq fp (fun z => e z.symm) hq hfp a ha) ?_⟩
      obtain ⟨d, hd⟩ := m1.dom fq G m2 a ha
      rw [hd]; exact fun z => nomatch z
  · have out : ∀ (m : Nat) (fm : List Addr), m ≠ i → fps[m]? = some fm → ∀ x ∈ fm, x ∉ fp' := fun m fm hm hfm x hx hx' => by
      rcases q3.2 x hx' with y | y
      · exact h3 m i fm fp hm hfm hfp x hx y
      · have hml : m < Ps.length := by have := (List.getElem?_eq_some_iff.mp hfm).1; omega
        obtain ⟨m1, m2⟩ := h2 m _ fm (List.getElem?_eq_getElem hml) hfm
        obtain ⟨d, hd⟩ := m1.dom fm G m2 x hx
        rw [y] at hd; cases hd
    by_cases e : i = j
    · subst e
      rw [List.getElem?_set_self (by omega)] at hq
      rw [List.getElem?_set_ne hjl] at hr
      cases hq
      exact out l fr (fun z => hjl z.symm) hr a hb ha
    · rw [List.getElem?_set_ne e] at hq
      by_cases e2 : i = l
      · subst e2
        rw [List.getElem?_set_self (by omega)] at hr
        cases hr
        exact out j fq (fun z => e z.symm) hq a ha hb
      · rw [List.getElem?_set_ne e2] at hr
        exact h3 j l fq fr hjl hq hr a ha hb
/-- a new part -/
theorem GS.add {Ps : List As} {G : GD} (h : GS Ps G) {P : As} {fp : List Addr} {G' : GD} (k : AOk P) (hp : P fp G') (h1 : ∀ b, G b ≠ none → G' b = G b) (h2 : ∀ b ∈ fp, G b = none) : GS (Ps ++ [P]) G' := by
  obtain ⟨fps, k1, k2, k3⟩ := h
  have dom : ∀ (i : Nat) (fq : List Addr), fps[i]? = some fq → ∀ a ∈ fq, ∃ d, G a = some d := fun i fq hq a ha => by
    have hil : i < Ps.length := by have := (List.getElem?_eq_some_iff.mp hq).1; omega
    obtain ⟨m1, m2⟩ := k2 i _ fq (List.getElem?_eq_getElem hil) hq
    exact m1.dom fq G m2 a ha
  refine ⟨fps ++ [fp], by rw [List.length_append, List.length_append, k1]; rfl, fun i Q fq hQ hq => ?_, fun i j fq fr hij hq hr a ha hb => ?_⟩
  · by_cases hi : i < Ps.length
    · rw [List.getElem?_append_left hi] at hQ
      rw [List.getElem?_append_left (by omega)] at hq
      obtain ⟨m1, m2⟩ := k2 i Q fq hQ hq
      refine ⟨m1, m1.loc fq G G' m2 fun a ha => h1 a ?_⟩
      obtain ⟨d, hd⟩ := m1.dom fq G m2 a ha
      rw [hd]; exact fun z => nomatch z
    · have : i = Ps.length := by have := (List.getElem?_eq_some_iff.mp hQ).1; rw [List.length_append] at this; simp at this; omega
      subst this
      rw [List.getElem?_append_right (Nat.le_refl _), Nat.sub_self] at hQ
      rw [← k1, List.getElem?_append_right (Nat.le_refl _), Nat.sub_self] at hq
      cases hQ; cases hq; exact ⟨k, hp⟩
  · have cs : ∀ (m : Nat) (fm : List Addr), (fps ++ [fp])[m]? = some fm → fps[m]? = some fm ∨ (m = fps.length ∧ fm = fp) := fun m fm hm => by
      by_cases hl : m < fps.length
      · rw [List.getElem?_append_left hl] at hm; exact .inl hm
      · have : m = fps.length := by have := (List.getElem?_eq_some_iff.mp hm).1; rw [List.length_append] at this; simp at this; omega
        subst this
        rw [List.getElem?_append_right (Nat.le_refl _), Nat.sub_self] at hm
        cases hm; exact .inr ⟨rfl, rfl⟩
    rcases cs i fq hq with z | ⟨z1, z2⟩
    · rcases cs j fr hr with y | ⟨y1, y2⟩
      · exact k3 i j fq fr hij z y a ha hb
      · subst y2
        obtain ⟨d, hd⟩ := dom i fq z a ha
        rw [h2 a hb] at hd; cases hd
    · subst z2
      rcases cs j fr hr with y | ⟨y1, y2⟩
      · obtain ⟨d, hd⟩ := dom j fr y a hb
        rw [h2 a ha] at hd; cases hd
      · exact hij (by omega)
theorem GS.take {Ps : List As} {G : GD} (h : GS Ps G) (n : Nat) : GS (Ps.take n) G := by
  obtain ⟨fps, k1, k2, k3⟩ := h
  refine ⟨fps.take n, by rw [List.length_take, List.length_take, k1], fun i P fp hP hf => ?_, fun i j fp fq hij hf hq => ?_⟩
  · rw [List.getElem?_take] at hP hf
    split at hP
    · rename_i hi
      rw [if_pos hi] at hf
      exact k2 i P fp hP hf
    · cases hP
  · rw [List.getElem?_take] at hf hq
    split at hf
    · split at hq
      · exact k3 i j fp fq hij hf hq
      · cases hq
    · cases hf
inductive Fld where
  | sh (d : D) | mo (d : D)
/-- an own list -/
abbrev Fld.mu (ds : List D) : Fld := .mo (.lst ds)
inductive FL (G : GD) : List Fld → List D → List Addr → Prop
  | nil : FL G [] [] []
  | sh {d : D} {fs : List Fld} {ds : List D} {as : List Addr} (h : FL G fs ds as) : FL G (.sh d :: fs) (d :: ds) as
  | mo {d : D} {a : Addr} {fs : List Fld} {ds : List D} {as : List Addr} (ha : G a = some d) (h : FL G fs ds as) : FL G (.mo d :: fs) (.adr a :: ds) (a :: as)
theorem FL.loc {G G' : GD} {fs : List Fld} {ds : List D} {as : List Addr} (h : FL G fs ds as) (k : ∀ a ∈ as, G' a = G a) : FL G' fs ds as := by
  induction h with
  | nil => exact .nil
  | sh _ ih => exact .sh (ih k)
  | mo ha _ ih => exact .mo (by rw [k _ List.mem_cons_self]; exact ha) (ih fun a h => k a (List.mem_cons_of_mem _ h))
theorem FL.dom {G : GD} {fs : List Fld} {ds : List D} {as : List Addr} (h : FL G fs ds as) : ∀ a ∈ as, ∃ d, G a = some d := by
  induction h with
  | nil => intro a h; cases h
  | sh _ ih => exact ih
  | mo ha _ ih =>
    intro a h
    rcases List.mem_cons.mp h with rfl | h
    · exact ⟨_, ha⟩
    · exact ih a h
theorem FL.len {G : GD} {fs : List Fld} {ds : List D} {as : List Addr} (h : FL G fs ds as) : fs.length = ds.length := by
  induction h with
  | nil => rfl
  | sh _ ih => rw [List.length_cons, List.length_cons, ih]
  | mo _ _ ih => rw [List.length_cons, List.length_cons, ih]
def obA (C o : Addr) (ns : List Str) (fs : List Fld) : As := fun fp G => ∃ ds as, fp = o :: as ∧ (o :: as).Nodup ∧ ns.length = fs.length ∧ G o = some (.obj C ns ds) ∧ FL G fs ds as
/-- a field that is shared data is read -/
theorem FL.get {G : GD} : ∀ {fs : List Fld} {ds : List D} {as : List Addr}, FL G fs ds as → ∀ {ns : List Str} {f : Str} {d : D}, (ns.zip fs).lookup f = some (.sh d) → (ns.zip ds).lookup f = some d
  | _, _, _, .nil, ns, f, d, h => by cases ns <;> simp at h
  | _, _, _, .sh k, [], f, d, h => by simp at h
  | _, _, _, .mo _ k, [], f, d, h => by simp at h
  | _, _, _, .sh k, n :: ns, f, d, h => by
    rw [List.zip_cons_cons, List.lookup_cons] at h ⊢
    cases e : f == n with
    | true => rw [e] at h; cases h; rfl
    | false => rw [e] at h; exact k.get h
  | _, _, _, .mo _ k, n :: ns, f, d, h => by
    rw [List.zip_cons_cons, List.lookup_cons] at h ⊢
    cases e : f == n with
    | true => rw [e] at h; cases h
    | false => rw [e] at h; exact k.get h
/-- fields with a new one -/
def putFl (f : Str) (x : Fld) : List Str → List Fld → List Fld
  | g :: r, y :: fs => if g = f then x :: fs else y :: putFl f x r fs
  | _, _ => [x]
/-- a list of an own field is known by its address; it may be changed -/
theorem FL.mutD {G : GD} : ∀ {fs : List Fld} {ds : List D} {as : List Addr}, FL G fs ds as → as.Nodup → ∀ {ns : List Str} {f : Str} {l : D}, (ns.zip fs).lookup f = some (.mo l) → ∃ a ∈ as, (ns.zip ds).lookup f = some (.adr a) ∧ G a = some l ∧ ∀ l', FL (updG G a l') (putFl f (.mo l') ns fs) ds as
  | _, _, _, .nil, _, ns, f, l, h => by cases ns <;> simp at h
  | _, _, _, .sh k, _, [], f, l, h => by simp at h
  | _, _, _, .mo _ k, _, [], f, l, h => by simp at h
  | _, _, _, .sh (d := d) k, hn, n :: ns, f, l, h => by
    rw [List.zip_cons_cons, List.lookup_cons] at h
    cases e : f == n with
    | true => rw [e] at h; cases h
    | false =>
      rw [e] at h
      obtain ⟨a, ha, h1, h2, h3⟩ := k.mutD hn h
      refine ⟨a, ha, by rw [List.zip_cons_cons, List.lookup_cons, e]; exact h1, h2, fun l' => ?_⟩
      unfold putFl
      rw [if_neg (fun z => by rw [z, beq_self_eq_true] at e; cases e)]
      exact .sh (h3 l')
  | _, _, _, .mo (a := a0) ha0 k, hn, n :: ns, f, l, h => by
    obtain ⟨n1, n2⟩ := List.nodup_cons.mp hn
    rw [List.zip_cons_cons, List.lookup_cons] at h
    cases e : f == n with
    | true =>
      rw [e] at h; cases h
      refine ⟨a0, List.mem_cons_self, by rw [List.zip_cons_cons, List.lookup_cons, e], ha0, fun l' => ?_⟩
      unfold putFl
      rw [if_pos (eq_of_beq e).symm]
      exact .mo updG_same (k.loc fun b hb => updG_ne fun z => n1 (z ▸ hb))
    | false =>
      rw [e] at h
      obtain ⟨a, ha, h1, h2, h3⟩ := k.mutD n2 h
      refine ⟨a, List.mem_cons_of_mem _ ha, by rw [List.zip_cons_cons, List.lookup_cons, e]; exact h1, h2, fun l' => ?_⟩
      unfold putFl
      rw [if_neg (fun z => by rw [z, beq_self_eq_true] at e; cases e)]
      have hne : a0 ≠ a := fun z => n1 (by rw [z]; exact ha)
      exact .mo (by rw [updG_ne hne]; exact ha0) (h3 l')
theorem FL.mut {G : GD} {fs : List Fld} {ds : List D} {as : List Addr} (h : FL G fs ds as) (hn : as.Nodup) {ns : List Str} {f : Str} {l : List D} (hl : (ns.zip fs).lookup f = some (.mu l)) : ∃ a ∈ as, (ns.zip ds).lookup f = some (.adr a) ∧ G a = some (.lst l) ∧ ∀ l', FL (updG G a (.lst l')) (putFl f (.mu l') ns fs) ds as := by
  obtain ⟨a, h1, h2, h3, h4⟩ := h.mutD hn hl
  exact ⟨a, h1, h2, h3, fun l' => h4 _⟩
/-- a field gets shared data, or a list that is new -/
theorem FL.put {G : GD} : ∀ {fs : List Fld} {ds : List D} {as : List Addr}, FL G fs ds as → as.Nodup → ∀ {ns : List Str}, ns.length = fs.length → ∀ (f : Str) (x : Fld) (dx : D) (ax : List Addr), FL G [x] [dx] ax → (∀ a ∈ ax, a ∉ as) → ∃ bs, FL G (putFl f x ns fs) (putAD f dx ns ds) bs ∧ bs.Nodup ∧ ∀ a ∈ bs, a ∈ as ∨ a ∈ ax
  | _, _, _, .nil, _, [], _, f, x, dx, ax, hx, _ => ⟨ax, hx, by
      cases hx with
      | sh h => cases h; exact List.nodup_nil
      | mo _ h => cases h; simp, fun a h => .inr h⟩
  | _, _, _, .nil, _, _ :: _, hl, _, _, _, _, _, _ => nomatch hl
  | _, _, _, .sh _, _, [], hl, _, _, _, _, _, _ => nomatch hl
  | _, _, _, .mo _ _, _, [], hl, _, _, _, _, _, _ => nomatch hl
  | _, _, _, .sh (as := as) k, hn, n :: ns, hl, f, x, dx, ax, hx, hd => by
    unfold putFl putAD
    by_cases e : n = f
    · rw [if_pos e, if_pos e]
      cases hx with
      | sh h => cases h; exact ⟨as, .sh k, hn, fun a h => .inl h⟩
      | mo ha h =>
        cases h
        rename_i a0
        exact ⟨a0 :: as, .mo ha k, List.nodup_cons.mpr ⟨hd a0 (by simp), hn⟩, fun a h => by
          rcases List.mem_cons.mp h with rfl | h
          · exact .inr (by simp)
          · exact .inl h⟩
    · rw [if_neg e, if_neg e]
      obtain ⟨bs, b1, b2, b3⟩ := k.put hn (Nat.succ.inj hl) f x dx ax hx hd
      exact ⟨bs, .sh b1, b2, b3⟩
  | _, _, _, .mo (as := as) (a := a1) ha1 k, hn, n :: ns, hl, f, x, dx, ax, hx, hd => by
    obtain ⟨n1, n2⟩ := List.nodup_cons.mp hn
    have hd' : ∀ a ∈ ax, a ∉ as := fun a h z => hd a h (List.mem_cons_of_mem _ z)
    unfold putFl putAD
    by_cases e : n = f
    · rw [if_pos e, if_pos e]
      cases hx with
      | sh h => cases h; exact ⟨as, .sh k, n2, fun a h => .inl (List.mem_cons_of_mem _ h)⟩
      | mo ha h =>
        cases h
        rename_i a0
        exact ⟨a0 :: as, .mo ha k, List.nodup_cons.mpr ⟨hd' a0 (by simp), n2⟩, fun a h => by
          rcases List.mem_cons.mp h with rfl | h
          · exact .inr (by simp)
          · exact .inl (List.mem_cons_of_mem _ h)⟩
    · rw [if_neg e, if_neg e]
      obtain ⟨bs, b1, b2, b3⟩ := k.put n2 (Nat.succ.inj hl) f x dx ax hx hd'
      refine ⟨a1 :: bs, .mo ha1 b1, List.nodup_cons.mpr ⟨fun z => ?_, b2⟩, fun a h => ?_⟩
      · rcases b3 a1 z with y | y
        · exact n1 y
        · exact hd a1 y List.mem_cons_self
      · rcases List.mem_cons.mp h with rfl | h
        · exact .inl List.mem_cons_self
        · exact (b3 a h).imp (List.mem_cons_of_mem _) id
open Out (Rt)
section
variable {X : Cy} {e a b c o : Expr} {es : List Expr} {st : Stmt} {sts rest : List Stmt} {r : Env2} {G : GD} {pos apos p0 : Pos} {D0 : EndsD} {σT A R : Type}
theorem obA.own {C p : Addr} {ns : List Str} {fs : List Fld} {fp : List Addr} (h : obA C p ns fs fp G) : ∃ ds, G p = some (.obj C ns ds) := let ⟨ds, _, _, _, _, h1, _⟩ := h; ⟨ds, h1⟩
theorem FL.frz {G : GD} : ∀ {fs : List Fld} {ds : List D} {as : List Addr}, FL G fs ds as → as.Nodup → ∀ {ns : List Str} {f : Str} {l : List D}, (ns.zip fs).lookup f = some (.mu l) → ∀ (d : D), ∃ a ∈ as, (ns.zip ds).lookup f = some (.adr a) ∧ G a = some (.lst l) ∧ ∃ bs, FL G (putFl f (.sh d) ns fs) (putAD f d ns ds) bs ∧ bs.Nodup ∧ (∀ b ∈ bs, b ∈ as) ∧ a ∉ bs
  | _, _, _, .nil, _, ns, f, l, h, _ => by cases ns <;> simp at h
  | _, _, _, .sh k, _, [], f, l, h, _ => by simp at h
  | _, _, _, .mo _ k, _, [], f, l, h, _ => by simp at h
  | _, _, _, .sh (d := d0) k, hn, n :: ns, f, l, h, d => by
    rw [List.zip_cons_cons, List.lookup_cons] at h
    cases e : f == n with
    | true => rw [e] at h; cases h
    | false =>
      rw [e] at h
      obtain ⟨a, ha, h1, h2, bs, h3, h4, h5, h6⟩ := k.frz hn h d
      refine ⟨a, ha, by rw [List.zip_cons_cons, List.lookup_cons, e]; exact h1, h2, bs, ?_, h4, h5, h6⟩
      unfold putFl putAD
      rw [if_neg (fun z => by rw [z, beq_self_eq_true] at e; cases e), if_neg (fun z => by rw [z, beq_self_eq_true] at e; cases e)]
      exact .sh h3
  | _, _, _, .mo (a := a0) (as := as) ha0 k, hn, n :: ns, f, l, h, d => by
    obtain ⟨n1, n2⟩ := List.nodup_cons.mp hn
    rw [List.zip_cons_cons, List.lookup_cons] at h
    cases e : f == n with
    | true =>
      rw [e] at h; cases h
      refine ⟨a0, List.mem_cons_self, by rw [List.zip_cons_cons, List.lookup_cons, e], ha0, as, ?_, n2, fun b hb => List.mem_cons_of_mem _ hb, n1⟩
      unfold putFl putAD
      rw [if_pos (eq_of_beq e).symm, if_pos (eq_of_beq e).symm]
      exact .sh k
    | false =>
      rw [e] at h
      obtain ⟨a, ha, h1, h2, bs, h3, h4, h5, h6⟩ := k.frz n2 h d
      refine ⟨a, List.mem_cons_of_mem _ ha, by rw [List.zip_cons_cons, List.lookup_cons, e]; exact h1, h2, a0 :: bs, ?_, List.nodup_cons.mpr ⟨fun z => n1 (h5 _ z), h4⟩, fun b hb => ?_, fun z => ?_⟩
      · unfold putFl putAD
        rw [if_neg (fun z => by rw [z, beq_self_eq_true] at e; cases e), if_neg (fun z => by rw [z, beq_self_eq_true] at e; cases e)]
        exact .mo ha0 h3
      · rcases List.mem_cons.mp hb with rfl | hb
        · exact List.mem_cons_self
        · exact List.mem_cons_of_mem _ (h5 b hb)
      · rcases List.mem_cons.mp z with z | z
        · exact n1 (z ▸ ha)
        · exact h6 z
end
open Out (Rt)
section
variable {X : Cy} {e a b c o : Expr} {es : List Expr} {st : Stmt} {sts rest : List Stmt} {r : Env2} {G : GD} {pos apos cpos p0 : Pos} {D0 : EndsD} {σT A R α : Type} {cx : Nat → Addr}
theorem WA.mono {Q Q' : List D → Env2 → GD → Prop} (h : WA X es r G Q) (k : ∀ x r' G', Q x r' G' → Q' x r' G') : WA X es r G Q' := fun F0 T F H σ lk S =>
  (h F0 T F H σ lk S).mono fun _ _ ⟨x, r', G', F', a, b, c, q⟩ => ⟨x, r', G', F', a, b, c, k _ _ _ q⟩
end
open Out (Rt)
open Out (Rt)
open Out (Rt)
open Out (Rt)
open Out (Rt)
/-- the table of a law's own code is a part, too -/
def tabA (P : Addr) (q : Str) : As := fun fp G => fp = [P] ∧ G P = some (.tab q)
theorem GS.tab {Ps : List As} {G : GD} (h : GS Ps G) (i : Nat) {P : Addr} {q : Str} (hi : Ps[i]? = some (tabA P q)) : G P = some (.tab q) := by
  obtain ⟨fp, _, h1, _⟩ := h.at i hi
  exact h1.2
open Out (Rt)
open Out (Rt)
section
variable {X : Cy} {e a b c o tg kx vx elt : Expr} {es ifs : List Expr} {st : Stmt} {sts rest body orelse : List Stmt} {r : Env2} {G : GD} {pos tpos apos cpos p0 : Pos} {D0 : EndsD} {α β γ σT ρ : Type}
theorem wb_forRH (is : List Nat) (env : σT → Env2) (gg : σT → GD) (en : α → D) (er : ρ → Res) (gr : ρ → GD) (hp : PassesOwn (model X.prog X.w) X.A X.env X.xe) (hc : X.calm = true)
    (h : WI X tg e r G fun ds r2 G1 => ∃ (xs : List α) (s0 : σT) (f : σT → α → Out (Rt σT ρ)) (kk : Rt σT ρ → Out β) (Q : β → Prop) (E : Xm → Prop), ds = xs.map en ∧ Wk r2 (env s0) ∧ G1 = gg s0 ∧ ((Out.loop f xs s0).bind kk).sat Q E ∧
      (∀ (s : σT) (x : α) (Q' : Rt σT ρ → Prop), (f s x).sat Q' E → WG X tg (en x) (env s) (gg s) is fun r4 G4 => WB X body r4 G4 { nx := AtS env gg (fun s => Q' (.nx s)), ct := AtS env gg (fun s => Q' (.nx s)), bk := fun r1 G1 => WB X rest r1 G1 D0, rt := fun y G' => ∃ v, y = er v ∧ G' = gr v ∧ Q' (.rt v) }) ∧
      (∀ v, (kk (.rt v)).sat Q E → D0.rt (er v) (gr v)) ∧ ∀ s, (kk (.nx s)).sat Q E → WB X rest (env s) (gg s) D0) (hs : ∀ x, foldedSetIterable e X.env x = pure x := by intro _; rfl) : Hold (WB X (.For tg e body [] pos :: rest) r G D0) := ⟨wb_forR is env gg en er gr hp hc h hs⟩
theorem wb_forOH (is : List Nat) (env : σT → Env2) (gg : σT → GD) (en : α → D) (hp : PassesOwn (model X.prog X.w) X.A X.env X.xe) (hc : X.calm = true)
    (h : WI X tg e r G fun ds r2 G1 => ∃ (xs : List α) (s0 : σT) (f : σT → α → Out σT) (kk : σT → Out β) (Q : β → Prop) (E : Xm → Prop), ds = xs.map en ∧ Wk r2 (env s0) ∧ G1 = gg s0 ∧ ((Out.fold f xs s0).bind kk).sat Q E ∧
      (∀ (s : σT) (x : α) (Q' : σT → Prop), (f s x).sat Q' E → WG X tg (en x) (env s) (gg s) is fun r4 G4 => WB X body r4 G4 { D0 with nx := AtS env gg Q', ct := AtS env gg Q', bk := fun r1 G1 => WB X rest r1 G1 D0 }) ∧
      ∀ s, (kk s).sat Q E → WB X rest (env s) (gg s) D0) (hs : ∀ x, foldedSetIterable e X.env x = pure x := by intro _; rfl) : Hold (WB X (.For tg e body [] pos :: rest) r G D0) := ⟨wb_forO is env gg en hp hc h hs⟩
theorem ti_tupH {f : α → D} {Q : List D → Env2 → GD → Prop} (h : WE X e r G fun x r1 G1 => ∃ xs r2, fz r1 x = some (.tup (List.map f xs), r2) ∧ (xs.length ≤ LIM → Q (xs.map f) r2 G1)) : Hold (WI X tg e r G Q) := ⟨ti_tup h⟩
end
theorem PE.weak {X : Cx} {e : Expr} {t t' : TE} (h : PE X e t) (k : ∀ σ H Q, t' σ H Q → t σ H Q) : PE X e t' := ⟨fun pins s σ H Q I q => h.run pins s σ H Q I (k σ H Q q)⟩
open Out (Rt)
/-- a block's context from which the def's own state comes back, its slots as rl tells -/
def LamB (X : Cy) (scope : Scope) (rl : Env2) (Fa : Hp) (Y : Cy) : Prop :=
  ∃ (s : Shared) (H : Hp) (C : Addr) (cl : List (Str × Addr)) (fp : List Addr) (pins : List (Addr × Obj)) (σ0 : L2.St), Y = { X.toCx.blk s H scope (compEnvC scope cl C X.env) fp with F0 := Fa, T := X.T, QX := fun _ _ _ => False } ∧ Ex X.F0 Fa ∧ rl.length = σ0.length ∧
    (∀ (i : Nat) (d : D), rl[i]? = some (.sh d) → ∃ v, σ0[i]? = some (some v) ∧ Rep X.K Fa d v) ∧ ∀ (pins' : List (Addr × Obj)) (σ' : L2.St) (H' : Hp) (s' : Shared), Inv Y.toCx pins' σ' H' s' → Inv X.toCx pins σ0 H' s'
section
variable {X Y : Cy} {tg e elt : Expr} {ifs : List Expr} {r rl : Env2} {G : GD} {pos p : Pos} {Fa : Hp} {scope : Scope}
theorem LamB.k (h : LamB X scope rl Fa Y) : Y.K = X.K := by obtain ⟨_, _, _, _, _, _, _, rfl, _⟩ := h; rfl
theorem LamB.lk {F' T' : Hp} (h : LamB X scope rl Fa Y) (ef : Ex Fa F') (lk : Lk X F' T') : Lk Y F' T' := by
  obtain ⟨_, _, _, _, _, _, _, rfl, ex, _⟩ := h
  exact ⟨lk.t, ef, fun a o ho => (lk.ft a o ho).imp (fun z => ex _ _ z) id⟩
theorem LamB.tk (h : LamB X scope rl Fa Y) : Y.Tk := by
  obtain ⟨_, _, _, _, _, _, _, rfl, _⟩ := h
  exact takes0.imp fun _ _ _ _ ⟨_, _, _, _, _, _, z⟩ => z
end
def Out.seqs {ρ : Type} : List (Out ρ) → Out (List ρ)
  | [] => .ok []
  | m :: ms => m.bind fun v => (Out.seqs ms).bind fun vs => .ok (v :: vs)
open Out (Rt)
section
variable {X : Cy} {tg e elt : Expr} {ifs : List Expr} {sts : List Stmt} {r rl : Env2} {G : GD} {pos p : Pos} {D0 : EndsD} {scope : Scope}
theorem Bas.drop {K : PySem.W.Frag} {F0 T F H : Hp} {G G' : GD} (B : Bas K F0 T F G' H) (h : ∀ a d, G a = some d → G' a = some d) : Bas K F0 T F G H :=
  ⟨B.ff, B.ft, B.fh, fun a d q => B.gh a d (h a d q), fun a o q => B.fg a o (h a o q), fun a o q => B.gt a o (h a o q), B.tk⟩
theorem none_drop {G G' : GD} (h : ∀ a d, G a = some d → G' a = some d) {p : Addr} (q : G' p = none) : G p = none := by
  cases e : G p with
  | none => rfl
  | some d => rw [h p d e] at q; cases q
theorem RtOk.drop {K : PySem.W.Frag} {T F H : Hp} {G G' : GD} (h : ∀ a d, G a = some d → G' a = some d) {x : Res} {v : V} (k : RtOk K T F G' H x v) : RtOk K T F G H x v := by
  cases x with
  | sh d => exact k
  | fr d => obtain ⟨p, k1, k2, k3, k4, k5⟩ := k; exact ⟨p, k1, k2, k3, none_drop h k4, k5⟩
  | pk i => exact k
theorem Frm.sub {G G' : GD} {fp : List Addr} (h : Frm [] G fp G') : ∀ a d, G a = some d → G' a = some d := fun a d q => by
  rw [h.1 a (fun z => nomatch z) (by rw [q]; exact fun z => nomatch z)]; exact q
end
open Out (Rt)
inductive At where
  | s (z : S) | i (n : Int)
deriving DecidableEq
def At.s? : At → Option S
  | .s z => some z
  | .i _ => none
def At.i? : At → Option Int
  | .s _ => none
  | .i n => some n
@[simp] theorem At.s?_s (z : S) : (At.s z).s? = some z := rfl
@[simp] theorem At.s?_i (n : Int) : (At.i n).s? = none := rfl
@[simp] theorem At.i?_s (z : S) : (At.s z).i? = none := rfl
@[simp] theorem At.i?_i (n : Int) : (At.i n).i? = some n := rfl
open Out (Rt)
open Out (Rt)
section
variable {X : Cy} {e0 : Expr} {sts : List Stmt} {r : Env2} {G : GD} {pos : Pos} {D0 : EndsD} {α β : Type}
theorem wb_letH {e : α} {f : α → Out β} {Q : β → Prop} {E : Xm → Prop} (h : ((Out.ok e).bind f).sat Q E) (R : α → Env2) (hr : r = R e) (k : ∀ x, (f x).sat Q E → WB X sts (R x) G D0) : Hold (WB X sts r G D0) := ⟨wb_let h R hr k⟩
theorem ws_setH (i : Nat) {x : Str} {pos' : Pos} (hN : X.N.Nodup) (hi : X.N[i]? = some x) (hx : Loc X.env.scope x) (h : WE X e0 r G fun y r1 G1 => i < r1.length ∧ ∃ r2, putS r1 i y = some r2 ∧ D0.nx r2 G1)
    (hs : swapsWith e0 (some (.Name x pos')) pos.line X.env = pure false := by rfl) (hf : X.fn x = true ∨ X.env.scope.names.lookup x = some .local := by first | exact .inl rfl | exact .inr rfl | assumption) : Hold (WS X (.Assign [.Name x pos'] e0 pos) r G D0) := ⟨ws_set i hN hi hx h hs hf⟩
end
theorem GS.keep {Ps : List As} {G G' : GD} (h : GS Ps G) (h1 : ∀ b, G b ≠ none → G' b = G b) : GS Ps G' := by
  have := (h.add (P := fun fp _ => fp = []) (fp := []) (G' := G') ⟨fun fp G e a ha => by rw [e] at ha; simp at ha, fun _ _ _ e _ => e⟩ rfl h1 (by simp)).take Ps.length
  rwa [List.take_left] at this
def RegM (G0 : GD) (rows : List (Addr × List Int)) (G : GD) : Prop := (rows.map (·.1)).Nodup ∧ (∀ p, p ∈ rows → G0 p.1 = none ∧ G p.1 = some (.lst (p.2.map D.int))) ∧ ∀ a, a ∉ rows.map (·.1) → G a = G0 a
theorem RegM.nil (G : GD) : RegM G [] G := ⟨List.nodup_nil, (fun _ h => by cases h), fun _ _ => rfl⟩
theorem RegM.add {G0 G : GD} {rows : List (Addr × List Int)} (h : RegM G0 rows G) {p : Addr} (hp : G p = none) (ns : List Int) : RegM G0 (rows ++ [(p, ns)]) (updG G p (.lst (ns.map D.int))) := by
  obtain ⟨h1, h2, h3⟩ := h
  have hn : p ∉ rows.map (·.1) := fun z => by
    obtain ⟨q, hq, e⟩ := List.mem_map.mp z
    have := (h2 q hq).2
    rw [e, hp] at this; cases this
  refine ⟨?_, fun q hq => ?_, fun a ha => ?_⟩
  · rw [List.map_append, List.nodup_append]
    refine ⟨h1, by simp, fun a ha b hb e => ?_⟩
    rw [List.map_singleton, List.mem_singleton] at hb
    subst hb; subst e; exact hn ha
  · rcases List.mem_append.mp hq with z | z
    · have hne : q.1 ≠ p := fun e => hn (e ▸ List.mem_map.mpr ⟨q, z, rfl⟩)
      exact ⟨(h2 q z).1, by rw [updG_ne hne]; exact (h2 q z).2⟩
    · rw [List.mem_singleton] at z; subst z
      exact ⟨by rw [← h3 p hn]; exact hp, updG_same⟩
  · rw [List.map_append, List.mem_append] at ha
    have hne : a ≠ p := fun e => ha (.inr (by simp [e]))
    rw [updG_ne hne]; exact h3 a fun z => ha (.inl z)
theorem RegM.at {G0 G : GD} {rows : List (Addr × List Int)} (h : RegM G0 rows G) {k : Nat} {p : Addr × List Int} (hk : rows[k]? = some p) : G p.1 = some (.lst (p.2.map D.int)) := (h.2.1 p (List.mem_of_getElem? hk)).2
theorem RegM.set {G0 G : GD} {rows : List (Addr × List Int)} (h : RegM G0 rows G) {k : Nat} {a : Addr} {ns ms : List Int} (hk : rows[k]? = some (a, ns)) : RegM G0 (rows.set k (a, ms)) (updG G a (.lst (ms.map D.int))) := by
  obtain ⟨h1, h2, h3⟩ := h
  have hm : (rows.set k (a, ms)).map (·.1) = rows.map (·.1) := by
    refine List.ext_getElem? fun j => ?_
    rw [List.getElem?_map, List.getElem?_map]
    by_cases e : k = j
    · subst e
      rw [List.getElem?_set_self (List.getElem?_eq_some_iff.mp hk).1, hk]; rfl
    · rw [List.getElem?_set_ne e]
  refine ⟨by rw [hm]; exact h1, fun q hq => ?_, fun b hb => ?_⟩
  · obtain ⟨j, hj⟩ := List.mem_iff_getElem?.mp hq
    by_cases e : k = j
    · subst e
      rw [List.getElem?_set_self (List.getElem?_eq_some_iff.mp hk).1] at hj
      cases hj
      exact ⟨(h2 _ (List.mem_of_getElem? hk)).1, updG_same⟩
    · rw [List.getElem?_set_ne e] at hj
      have hqm := List.mem_of_getElem? hj
      have hne : q.1 ≠ a := fun z => by
        have i1 : (rows.map (·.1))[j]? = some a := by rw [List.getElem?_map, hj, ← z]; rfl
        have i2 : (rows.map (·.1))[k]? = some a := by rw [List.getElem?_map, hk]; rfl
        obtain ⟨l1, e1⟩ := List.getElem?_eq_some_iff.mp i1
        obtain ⟨l2, e2⟩ := List.getElem?_eq_some_iff.mp i2
        rcases Nat.lt_or_gt_of_ne e with y | y
        · exact List.pairwise_iff_getElem.mp h1 _ _ l2 l1 y (e2.trans e1.symm)
        · exact List.pairwise_iff_getElem.mp h1 _ _ l1 l2 y (e1.trans e2.symm)
      exact ⟨(h2 q hqm).1, by rw [updG_ne hne]; exact (h2 q hqm).2⟩
  · rw [hm] at hb
    have hne : b ≠ a := fun z => hb (z ▸ List.mem_map.mpr ⟨_, List.mem_of_getElem? hk, rfl⟩)
    rw [updG_ne hne]; exact h3 b hb
open Out (Rt)
open Out (Rt)
open Out (Rt)
section
variable {X : Cx}
def mrgN (acc us : List KdE) : List KdE := us.foldl (fun acc x => putN acc x.1 x.2.1 x.2.2) acc
theorem mrgN_nd : ∀ (us acc : List KdE), (acc.map (·.1)).Nodup → ((mrgN acc us).map (·.1)).Nodup
  | [], _, h => h
  | x :: us, acc, h => mrgN_nd us (putN acc x.1 x.2.1 x.2.2) (putN_nd h)
theorem mrgN_len : ∀ (us acc : List KdE), (mrgN acc us).length ≤ acc.length + us.length
  | [], _ => Nat.le_refl _
  | x :: us, acc => by
    have h1 := mrgN_len us (putN acc x.1 x.2.1 x.2.2)
    have h2 := putN_len (xs := acc) (k := x.1) (p := x.2.1) (v := x.2.2)
    show (mrgN (putN acc x.1 x.2.1 x.2.2) us).length ≤ acc.length + (us.length + 1)
    omega
theorem mrgN_rel : ∀ {us : List KdE} {ys : List (NestedKey × Addr × Value)} {acc : List KdE} {bcc : List (NestedKey × Addr × Value)}, Paired KdR acc bcc → Paired KdR us ys → Paired KdR (mrgN acc us) (storedAllH bcc ys)
  | _, _, _, _, h, .nil => h
  | _, _, _, _, h, .cons (a := x) (b := y) r t => by
    have h2 := kdr_put (k := x.1) (p := x.2.1) h r.2.2
    obtain ⟨e1, e2, _⟩ := r
    have := mrgN_rel h2 t
    show Paired KdR (mrgN _ _) (storedAllH (storedH _ y.1 y.2.1 y.2.2) _)
    rw [e1, e2]; exact this
end
section
variable {X : Cy} {κ ν : Type} [DecidableEq κ] {ek : κ → D} {f : ν → D}
theorem mrgN_rep {K : PySem.W.Frag} {F : Hp} (hk : KyC ek) : ∀ {xs acc : List (κ × ν)} {us ws : List KdE}, KRep K F (eKl ek f acc) ws → KRep K F (eKl ek f xs) us → KRep K F (eKl ek f (xs.foldl (fun acc p => dput acc p.1 p.2) acc)) (mrgN ws us)
  | [], _, _, _, h, h' => by rw [show _ = [] from h']; exact h
  | x :: xs, acc, _, ws, h, ⟨u, us', h1, h2, h3, h4, h5⟩ => by
    subst h1
    have z := h.put (k := ek x.1) (d := f x.2) h3 h4
    rw [putKD_eKl hk, show nkD (ek x.1) = u.1 from h2.symm] at z
    show KRep K F (eKl ek f (xs.foldl (fun acc p => dput acc p.1 p.2) (dput acc x.1 x.2))) (mrgN (putN ws u.1 u.2.1 u.2.2) us')
    exact mrgN_rep (acc := dput acc x.1 x.2) hk z h5
end
def LeafV (v : Value) : Prop := (∃ i t, v = Value.int i t) ∨ ∃ c, v = Value.bool c
def FlatT (h : Heap) (b : Addr) : Prop := ∃ o vs n, h.get? b = some o ∧ o.cls = .type "tuple" ∧ o.data = .seq vs n ∧ ∀ v ∈ vs.toList, LeafV v
/-- the tuple at b is the key k, and flat -/
structure FK (P : Program) (w : World) (h : Heap) (k : NestedKey) (b : Addr) : Prop where
  is : (nestedKind P w).is h k b
  flat : FlatT h b
abbrev FRow := NestedKey × Addr
def rowN (w : World) (p : FRow) : Int × Value := (p.1.hash w, .ref p.2)
section
variable {P : Program} {w : World} {A : Around} {E : Value → Shared → Prop} {s : Shared} {k k' : NestedKey} {a b c : Addr} {L : List FRow}
theorem FK.seqs {h h' : Heap} (x : FK P w h k b) (hk : ∀ c o vs n, h.get? c = some o → o.data = .seq vs n → h'.get? c = some o) : FK P w h' k b where
  is := nestedKind_stays.stays hk x.is
  flat := by
    obtain ⟨o, vs, n, e, c, d, r⟩ := x.flat
    exact ⟨o, vs, n, hk _ _ _ _ e d, c, d, r⟩
/-- a set that changes leaves the tuples -/
theorem FK.beside {h h' : Heap} {o : Obj} {es : Array (Int × Value)} {ep : Nat} {t : SetTable} (x : FK P w h k b) (ho : h.get? a = some o) (hd : o.data = .set es ep t) (sb : Heap.SameBut a h h') : FK P w h' k b :=
  x.seqs fun c oc vs n e ed => (sb.2 c fun z => by subst z; rw [ho] at e; cases e; rw [hd] at ed; cases ed).trans e
theorem leaf_class (n : Nat) {v : Value} (h : LeafV v) : ofAClassStatement n v = pure false := by
  rcases h with ⟨i, t, rfl⟩ | ⟨c, rfl⟩ <;> cases n <;> rfl
theorem leaf_hash (n : Nat) {v : Value} (h : LeafV v) : hashByValue n v = pure true := by
  rcases h with ⟨i, t, rfl⟩ | ⟨c, rfl⟩ <;> cases n <;> rfl
theorem FlatT.type {b : Addr} (h : FlatT s.heap b) : s.TypeIs (.ref b) "tuple" := by
  obtain ⟨o, vs, n, e, c, _⟩ := h
  exact ⟨o, e, c⟩
theorem flat_class {Q : Bool → Shared → Prop} (h : FlatT s.heap b) (q : Q false s) : wpAny (model P w) A (ofAClassStatement 8 (.ref b)) Q E s := by
  have hT := h.type
  obtain ⟨o, vs, n, ho, _, hd, hl⟩ := h
  have tt : ((("tuple" : String) == "tuple") = true) := by decide
  unfold ofAClassStatement
  refine wpAny_bind (wpAny_typeOf hT ?_)
  dsimp only
  simp only [tt, if_true, Bool.not_true, Bool.false_eq_true, if_false]
  try refine wpAny_bind (wpAny_pure ?_)
  try simp only [Bool.not_true, Bool.false_eq_true, if_false]
  show wpAny _ _ (seqItems? (.ref b) >>= _) _ _ s
  refine wpAny_bind (wpAny_seqItems ho hd ?_)
  dsimp only
  refine wpAny_bind ?_
  show wpAny _ _ (forIn vs _ _) _ _ s
  rw [← Array.forIn_toList]
  refine wpAny_forIn_list _ (fun rest r s' => (∀ v ∈ rest, LeafV v) ∧ r.1 = none ∧ s' = s) _ ?_ ?_ _ _ ⟨hl, rfl, rfl⟩
  · rintro v rest r s' ⟨hv, hr, rfl⟩
    rw [leaf_class _ (hv v List.mem_cons_self)]
    refine wpAny_bind (wpAny_pure ?_)
    simp only [Bool.false_eq_true, if_false]
    exact wpAny_pure ⟨fun u hu => hv u (List.mem_cons_of_mem _ hu), rfl, rfl⟩
  · rintro ⟨r1, r2⟩ s' ⟨_, hr, rfl⟩
    simp only at hr
    subst hr
    exact wpAny_pure q
theorem flat_hash {Q : Bool → Shared → Prop} (h : FlatT s.heap b) (q : Q true s) : wpAny (model P w) A (hashByValue 8 (.ref b)) Q E s := by
  have hT := h.type
  obtain ⟨o, vs, n, ho, _, hd, hl⟩ := h
  unfold hashByValue
  refine wpAny_bind (wpAny_specialOf hT F.slot_tuple_hash.lookup ?_)
  show wpAny _ _ (seqItems? (.ref b) >>= _) _ _ s
  refine wpAny_bind (wpAny_seqItems ho hd ?_)
  refine wpAny_bind ?_
  show wpAny _ _ (forIn vs _ _) _ _ s
  rw [← Array.forIn_toList]
  refine wpAny_forIn_list _ (fun rest r s' => (∀ v ∈ rest, LeafV v) ∧ r.1 = none ∧ s' = s) _ ?_ ?_ _ _ ⟨hl, rfl, rfl⟩
  · rintro v rest r s' ⟨hv, hr, rfl⟩
    rw [leaf_hash _ (hv v List.mem_cons_self)]
    refine wpAny_bind (wpAny_pure ?_)
    simp only [Bool.not_true, Bool.false_eq_true, if_false]
    exact wpAny_pure ⟨fun u hu => hv u (List.mem_cons_of_mem _ hu), rfl, rfl⟩
  · rintro ⟨r1, r2⟩ s' ⟨_, hr, rfl⟩
    simp only at hr
    subst hr
    exact wpAny_pure q
theorem flat_unseen {Q : Bool → Shared → Prop} (hx : FK P w s.heap k b) {ys : List Value} (hy : ∀ y ∈ ys, ∃ k' c, y = Value.ref c ∧ FK P w s.heap k' c) (q : Q false s) : wpAny (model P w) A (searchCouldBeSeen (.ref b) ys) Q E s := by
  unfold searchCouldBeSeen
  refine wpAny_bind (wpAny_forIn_list _ (fun rest r s' => (∀ y ∈ rest, ∃ k' c, y = Value.ref c ∧ FK P w s.heap k' c) ∧ r.1 = none ∧ s' = s) _ ?_ ?_ _ _ ⟨hy, rfl, rfl⟩)
  · rintro v rest r s' ⟨hv, hr, rfl⟩
    obtain ⟨k', c, rfl, hc⟩ := hv v List.mem_cons_self
    have tl := fun u hu => hv u (List.mem_cons_of_mem _ hu)
    dsimp only
    by_cases z : (b == c || (carriedByValue (.ref b) && carriedByValue (.ref c))) = true
    · exact wp_if_pos z (wpAny_pure ⟨tl, rfl, rfl⟩)
    · refine wp_if_neg z (wpAny_bind ((nestedKind P w).quiet hx.is ?_))
      simp only [Bool.not_true, Bool.false_eq_true, if_false]
      refine wpAny_bind ((nestedKind P w).quiet hc.is ?_)
      simp only [Bool.not_true, Bool.false_eq_true, if_false]
      refine wpAny_bind (flat_class hx.flat ?_)
      simp only [Bool.false_eq_true, if_false]
      refine wpAny_bind (flat_class hc.flat ?_)
      simp only [Bool.false_eq_true, if_false]
      exact wpAny_pure ⟨tl, rfl, rfl⟩
  · rintro ⟨r1, r2⟩ s' ⟨_, hr, rfl⟩
    simp only at hr
    subst hr
    exact wpAny_pure q
end
/-- the set at a holds the rows of L, in the order of its table t -/
structure NS (P : Program) (w : World) (h : Heap) (a : Addr) (L : List FRow) (es : Array (Int × Value)) (ep : Nat) (t : SetTable) : Prop where
  obj : ∃ o, h.get? a = some o ∧ o.ExactSet ∧ o.data = .set es ep t
  rows : es.toList = L.map (rowN w)
  tab : TabOk t (L.map fun p => p.1.hash w)
  diff : (L.map (·.1)).Nodup
  tup : ∀ p ∈ L, FK P w h p.1 p.2
  plain : t.plain = true
  led : w.params.followText "set-order" = true ∨ t.led = true
  room : L.length * 5 < t.mask * 3
section
variable {P : Program} {w : World} {A : Around} {E : Value → Shared → Prop} {s : Shared} {k : NestedKey} {a b : Addr} {L : List FRow} {es : Array (Int × Value)} {ep : Nat} {t : SetTable}
theorem NS.len (R : NS P w s.heap a L es ep t) : es.size = L.length := by
  rw [← Array.length_toList, R.rows, List.length_map]
theorem NS.placed (R : NS P w s.heap a L es ep t) : t.place.toList.length = L.length := by
  rw [Array.length_toList, R.tab.sz, List.length_map]
theorem NS.fits (R : NS P w s.heap a L es ep t) : t.fits es.size = true := by
  have h1 := R.placed
  have h2 := R.len
  have h3 := R.room
  rw [Array.length_toList] at h1
  unfold SetTable.fits SetTable.fill
  rw [R.tab.dm, Bool.and_eq_true, beq_iff_eq, decide_eq_true_eq]
  show t.place.size = es.size ∧ t.place.size + 0 ≤ t.mask
  omega
theorem NS.ent (R : NS P w s.heap a L es ep t) {i : Nat} {p : FRow} (h : L[i]? = some p) : es[i]? = some (rowN w p) := by
  rw [← Array.getElem?_toList, R.rows, List.getElem?_map, h]; rfl
theorem NS.stays (R : NS P w s.heap a L es ep t) : ¬ t.gaveWay = true := by
  unfold SetTable.gaveWay
  rw [mask_odd R.tab.mok]; decide
/-- the hash that stands at a place of the table -/
abbrev hashAt (es : Array (Int × Value)) (i : Nat) : Int := (es[i]?.map (·.1)).getD 0
theorem NS.hash (R : NS P w s.heap a L es ep t) {i : Nat} {p : FRow} (h : L[i]? = some p) : hashAt es i = p.1.hash w := by
  unfold hashAt; rw [R.ent h]; rfl
/-- step c of the way of a hash -/
abbrev stepN (t : SetTable) (h : Int) (c : Nat) : SetTable.Probe := nth t.mask (runAt t.mask (SetTable.bits h % (t.mask + 1)) (SetTable.bits h)) c
theorem nth_pure (m : Nat) : ∀ (n : Nat) (p : SetTable.Probe), p.dummy = none → (nth m p n).dummy = none
  | 0, _, h => h
  | n + 1, p, h => nth_pure m n _ (by unfold adv; split <;> exact h)
theorem stepN_on (t : SetTable) (h : Int) (c q : Nat) : nth t.mask (stepN t h c) q = stepN t h (c + q) := (nth_add t.mask c _ q).symm
/-- a row with this key comes at or behind step c -/
def Ahead (t : SetTable) (L : List FRow) (k : NestedKey) (h : Int) (c K : Nat) : Prop := ∀ (i : Nat) (p : FRow), L[i]? = some p → p.1 = k → ∃ c', c ≤ c' ∧ c' < K ∧ t.place.toList[i]? = some (way t.mask h c')
/-- one look at the table from step c on: the empty slot, or a row of the same hash whose step is known -/
theorem NS.look (R : NS P w s.heap a L es ep t) (k : NestedKey) {K c : Nat} (hKf : K < 10 * SetTable.turns t.mask) (hK : way t.mask (k.hash w) K ∉ t.place.toList) (hB : ∀ c, c < K → way t.mask (k.hash w) c ∈ t.place.toList) (hc : c ≤ K) (hA : Ahead t L k (k.hash w) c K) :
    (k ∉ L.map (·.1) ∧ t.probe (hashAt es) (k.hash w) (stepN t (k.hash w) c) = some (.empty (way t.mask (k.hash w) K) none)) ∨
    ∃ d i p, c ≤ d ∧ d < K ∧ L[i]? = some p ∧ t.place.toList[i]? = some (way t.mask (k.hash w) d) ∧ t.slot (way t.mask (k.hash w) d) = .live i ∧ (p.1 ≠ k → Ahead t L k (k.hash w) (d + 1) K) ∧
      t.probe (hashAt es) (k.hash w) (stepN t (k.hash w) c) = some (.candidate (way t.mask (k.hash w) d) i (stepN t (k.hash w) (d + 1))) := by
  have jj : ∀ q, (nth t.mask (stepN t (k.hash w) c) q).j = way t.mask (k.hash w) (c + q) := fun q => congrArg SetTable.Probe.j (stepN_on t _ c q)
  have cK : c + (K - c) = K := by omega
  rcases go_spec t R.tab.ris R.tab.dm (hashAt es) (k.hash w) (10 * SetTable.turns t.mask) (K - c) (stepN t (k.hash w) c) (nth_pure _ _ _ rfl) (by omega) (fun q hq => by rw [jj]; exact hB _ (by omega)) (by rw [jj, cK]; exact hK) with ⟨q, i, hq, hi, hh, hno, hp⟩ | ⟨hno, hp⟩
  · right
    rw [jj] at hi
    have hil : i < L.length := by rw [← R.placed]; exact (List.getElem?_eq_some_iff.mp hi).1
    obtain ⟨p, hpi⟩ : ∃ p, L[i]? = some p := ⟨_, List.getElem?_eq_getElem hil⟩
    refine ⟨c + q, i, p, Nat.le_add_right _ _, by omega, hpi, hi, slot_live R.tab.ris hi, fun hne i' p' h1 h2 => ?_, ?_⟩
    · obtain ⟨c', a1, a2, a3⟩ := hA i' p' h1 h2
      refine ⟨c', ?_, a2, a3⟩
      by_cases z : c' < c + q
      · exact absurd ((R.hash h1).trans (congrArg (NestedKey.hash w) h2)) (hno (c' - c) i' (by omega) (by rw [jj, show c + (c' - c) = c' by omega]; exact a3))
      · by_cases y : c' = c + q
        · subst y
          have e := (slot_live R.tab.ris a3).symm.trans (slot_live R.tab.ris hi)
          injection e with e
          subst e
          rw [hpi] at h1
          cases h1
          exact absurd h2 hne
        · omega
    · unfold SetTable.probe
      have e2 := stepN_on t (k.hash w) c (q + 1)
      rw [jj, e2] at hp
      exact hp
  · left
    refine ⟨fun hm => ?_, ?_⟩
    · obtain ⟨p, hp1, hp2⟩ := List.mem_map.mp hm
      obtain ⟨i, hi⟩ := List.getElem?_of_mem hp1
      obtain ⟨c', a1, a2, a3⟩ := hA i p hi hp2
      exact hno (c' - c) i (by omega) (by rw [jj, show c + (c' - c) = c' by omega]; exact a3) ((R.hash hi).trans (congrArg (NestedKey.hash w) hp2))
    · unfold SetTable.probe
      rw [jj, cK] at hp
      exact hp
end
section
variable {P : Program} {w : World} {A : Around} {E : Value → Shared → Prop} {s : Shared} {k : NestedKey} {a b : Addr} {L : List FRow} {es : Array (Int × Value)} {ep : Nat} {t : SetTable}
theorem NS.search (R : NS P w s.heap a L es ep t) (hx : FK P w s.heap k b) (hu : A.units + 8 < cLine) {K : Nat} (hKf : K < 10 * SetTable.turns t.mask) (hK : way t.mask (k.hash w) K ∉ t.place.toList) (hB : ∀ c, c < K → way t.mask (k.hash w) c ∈ t.place.toList)
    {Q : SetFound → Shared → Prop} (hin : k ∈ L.map (·.1) → Q (.there none) s) (hout : k ∉ L.map (·.1) → Q (.free (way t.mask (k.hash w) K) false) s) :
    ∀ (f c : Nat) (st : Option SetTable.Probe), c ≤ K → K < c + f → st.getD (t.probeStart (k.hash w)) = stepN t (k.hash w) c → Ahead t L k (k.hash w) c K → wpAny (model P w) A (setSearchFrom a (.ref b) (k.hash w) true f st) Q E s := by
  obtain ⟨o, ho, hex, hd⟩ := R.obj
  intro f
  induction f with
  | zero => intro c st h1 h2; omega
  | succ f ih =>
    intro c st hc hf hst hA
    rw [setSearchFrom_succ]
    refine wpAny_bind (wpAny_setState_of ho hd R.fits ?_)
    dsimp only
    refine wp_if_neg R.stays ?_
    try refine wpAny_bind (wpAny_pure ?_)
    rw [hst]
    rcases R.look k hKf hK hB hc hA with ⟨hno, hp⟩ | ⟨d, i, p, h1, h2, hpi, hpl, hsl, hA', hp⟩
    · unfold hashAt at hp
      rw [hp]
      exact wpAny_pure (hout hno)
    · unfold hashAt at hp
      rw [hp]
      dsimp only
      have hmem := List.mem_of_getElem? hpi
      have go : wpAny (model P w) A (searchRest a (.ref b) (k.hash w) true f es t (way t.mask (k.hash w) d) i (stepN t (k.hash w) (d + 1))) Q E s := by
        unfold searchRest
        rw [R.ent hpi]
        show wpAny _ _ (holding [Value.ref p.2] (eqBool (.ref p.2) (.ref b)) >>= _) _ _ s
        refine wpAny_bind (wpAny_holding ((nestedKind P w).eqBool hu (R.tup p hmem).is hx.is ?_))
        refine wpAny_bind (wpAny_setState_of ho hd R.fits ?_)
        dsimp only
        by_cases z : p.1 = k
        · exact wp_if_pos (by simp [z]) (wpAny_pure (hin (List.mem_map.mpr ⟨p, hmem, z⟩)))
        · refine wp_if_neg (by simp [z]) ?_
          try refine wpAny_bind (wpAny_pure ?_)
          rw [show t.sameMemory t.moves t.mask = some true from if_pos (beq_self_eq_true _)]
          simp only [if_true, hsl, R.ent hpi, rowN]
          refine wpAny_bind (wpAny_isSame_ref_self (wpAny_bind (wpAny_pure ?_)))
          simp only [if_true]
          refine wp_if_neg (by simp [z]) ?_
          exact ih (d + 1) _ (by omega) (by omega) rfl (hA' z)
      by_cases z : t.led = true
      · refine wp_if_neg (by simp [z]) ?_
        try refine wpAny_bind (wpAny_pure ?_)
        exact go
      · refine wp_if_pos (by simp [z]) (wpAny_bind (flat_unseen hx (fun y hy => ?_) ?_))
        · obtain ⟨e, he, rfl⟩ := List.mem_map.mp hy
          have he' : e ∈ es.toList := by
            have : e ∈ es ∧ e.1 = k.hash w := by simpa using he
            simpa using this.1
          rw [R.rows] at he'
          obtain ⟨p2, q1, rfl⟩ := List.mem_map.mp he'
          exact ⟨p2.1, p2.2, rfl, R.tup p2 q1⟩
        · refine wp_if_neg (by decide) ?_
          try refine wpAny_bind (wpAny_pure ?_)
          exact go
theorem NS.find (R : NS P w s.heap a L es ep t) (hx : FK P w s.heap k b) (hu : A.units + 8 < cLine) {Q : SetFound → Shared → Prop} (hin : k ∈ L.map (·.1) → Q (.there none) s)
    (hout : ∀ K, k ∉ L.map (·.1) → way t.mask (k.hash w) K ∉ t.place.toList → (∀ c, c < K → way t.mask (k.hash w) c ∈ t.place.toList) → Q (.free (way t.mask (k.hash w) K) false) s) :
    wpAny (model P w) A (setSearch a (.ref b) (k.hash w) true) Q E s := by
  have hr := R.room
  obtain ⟨K, hKf, hK, hB⟩ := R.tab.first (by rw [List.length_map]; omega) (k.hash w)
  have hb : 10 * SetTable.turns t.mask ≤ 1420 := by
    unfold SetTable.turns
    rcases R.tab.mok with e | e | e <;> rw [e] <;> decide
  unfold setSearch
  refine R.search hx hu hKf hK hB hin (fun h => hout K h hK hB) 100000 0 none (Nat.zero_le _) (by omega) rfl fun i p h1 h2 => ?_
  have hil : i < t.place.toList.length := by rw [R.placed]; exact (List.getElem?_eq_some_iff.mp h1).1
  have hj := List.getElem?_eq_getElem hil
  obtain ⟨c, h3, h4⟩ := R.tab.before (h := k.hash w) hK (i := i) (by rw [List.getElem?_map, h1, ← h2]; rfl) hj
  exact ⟨c, Nat.zero_le _, h3, by rw [hj, h4]⟩
theorem range_pick {α : Type} : ∀ l : List α, (List.range l.length).filterMap (fun i => l[i]?) = l
  | [] => rfl
  | x :: l => by
    rw [List.length_cons, List.range_succ_eq_map, List.filterMap_cons_some (f := fun i => (x :: l)[i]?) (a := 0) (b := x) rfl, List.filterMap_map]
    exact congrArg (x :: ·) (range_pick l)
theorem pick_map {α β : Type} (f : α → β) (l : List α) : ∀ o : List Nat, o.filterMap (fun i => (l.map f)[i]?) = (o.filterMap fun i => l[i]?).map f
  | [] => rfl
  | i :: o => by
    have ih := pick_map f l o
    rw [List.filterMap_cons, List.filterMap_cons, List.getElem?_map]
    cases l[i]? with
    | none => exact ih
    | some x => exact congrArg (f x :: ·) ih
theorem pick_getD {α β : Type} [Inhabited β] (f : α → β) (l : List α) (g : Nat → β) (hg : ∀ i x, l[i]? = some x → g i = f x) : ∀ o : List Nat, (∀ i ∈ o, i < l.length) → o.map g = (o.filterMap fun i => l[i]?).map f
  | [], _ => rfl
  | i :: o, h => by
    have e := List.getElem?_eq_getElem (h i List.mem_cons_self)
    rw [List.filterMap_cons, e, List.map_cons, pick_getD f l g hg o fun j hj => h j (List.mem_cons_of_mem _ hj), hg i _ e]
    rfl
/-- all rows laid anew in a table of 32 places -/
theorem ns_relay {o : Obj} (ho : s.heap.get? a = some o) (hex : o.ExactSet) (hd : o.data = .set es ep t) (hrows : es.toList = L.map (rowN w)) (hf : t.fits es.size = true) (diff : (L.map (·.1)).Nodup) (tup : ∀ p ∈ L, FK P w s.heap p.1 p.2)
    (pl : t.plain = true) (ld : w.params.followText "set-order" = true ∨ t.led = true) (h5 : L.length = 5) {Q : Unit → Shared → Prop}
    (q : ∀ h' L' es' ep' t', Heap.SameBut a s.heap h' → NS P w h' a L' es' ep' t' → L'.Perm L → Q () { s with heap := h' }) : wpAny (model P w) A (setRelay a (SetTable.grown 5)) Q E s := by
  have hn : es.size = 5 := by rw [← Array.length_toList, hrows, List.length_map, h5]
  obtain ⟨t', ord, e1, e2, T, e3, e4, e5, e6⟩ := relaid_ok t (hs := es.map (·.1)) (wanted := SetTable.grown 5) (M := 31) (by rw [size_20]) (.inr (.inl rfl)) (by rw [Array.size_map, hn]; decide)
  rw [Array.size_map, hn, ← h5] at e2
  have hin : ∀ i ∈ ord.toList, i < L.length := fun i hi => List.mem_range.mp (e2.mem_iff.mp hi)
  have eg : ∀ i : Nat, es[i]? = (L.map (rowN w))[i]? := fun i => by rw [← Array.getElem?_toList, hrows]
  have hes : (ord.filterMap (es[·]?)).toList = (ord.toList.filterMap fun i => L[i]?).map (rowN w) := by
    rw [Array.toList_filterMap, ← pick_map]
    exact congrArg (fun f => List.filterMap f ord.toList) (funext eg)
  have hpm : (ord.toList.filterMap fun i => L[i]?).Perm L := by
    have := e2.filterMap (fun i => L[i]?)
    rwa [range_pick] at this
  rw [pick_getD (fun p : FRow => p.1.hash w) L _ (fun i x hx => by
    have e : (es.map (·.1))[i]? = some (x.1.hash w) := by rw [Array.getElem?_map, eg, List.getElem?_map, hx]; rfl
    simp [Array.getD_eq_getD_getElem?, e]) _ hin] at T
  generalize (ord.toList.filterMap fun i => L[i]?) = L' at hes hpm T
  have hsz : (ord.filterMap (es[·]?)).size = 5 := by rw [← Array.length_toList, hes, List.length_map, hpm.length_eq, h5]
  rw [setRelay_eq]
  refine wpAny_bind (wpAny_setState_of ho hd hf ?_)
  dsimp only
  refine wp_if_neg (by rw [size_20, sizeLine_eq]; omega) ?_
  try refine wpAny_bind (wpAny_pure ?_)
  rw [e1]
  dsimp only
  refine wpAny_bind (wp_if_neg (by rw [hsz, hn]; simp) ?_)
  try refine wpAny_bind (wpAny_pure ?_)
  refine wpAny_pure ?_
  dsimp only
  refine wpAny_storeSet_of ho hd ?_ (by rw [hsz, sizeLine_eq]; omega)
  have sb : Heap.SameBut a s.heap (s.heap.update a (Obj.putSet (ord.filterMap (es[·]?)) t')) := Heap.SameBut.update ..
  exact q _ L' _ (ep + 1) t' sb ⟨⟨_, store_at ho hd, ⟨hex.1, hex.2.1, hex.2.2⟩, rfl⟩, hes, T, (hpm.map (·.1)).nodup_iff.mpr diff, fun p hp => (tup p (hpm.mem_iff.mp hp)).beside ho hd sb, by rw [e5]; exact pl, by rw [e4]; exact ld, by rw [hpm.length_eq, h5, e3]; decide⟩ hpm
/-- what a set holds when k was put into L -/
def Put (L : List FRow) (k : NestedKey) (b : Addr) (L' : List FRow) : Prop := (k ∈ L.map (·.1) → L' = L) ∧ (k ∉ L.map (·.1) → L'.Perm ((k, b) :: L))
theorem NS.put (R : NS P w s.heap a L es ep t) (hx : FK P w s.heap k b) (hu : A.units + 8 < cLine) (few : k ∉ L.map (·.1) → L.length < 18) {Q : Bool → Shared → Prop}
    (q : ∀ z h' L' es' ep' t', Heap.SameBut a s.heap h' → NS P w h' a L' es' ep' t' → Put L k b L' → Q z { s with heap := h' }) : wpAny (model P w) A (setAddHashed a (.ref b) (k.hash w)) Q E s := by
  obtain ⟨o, ho, hex, hd⟩ := R.obj
  have hlen := R.len
  have hroom := R.room
  unfold setAddHashed
  refine wpAny_holding ?_
  rw [show (100000 : Nat) = 99999 + 1 from rfl, setAddHashedIn_succ]
  refine wpAny_bind (wpAny_setState_of ho hd R.fits ?_)
  dsimp only
  refine wp_if_neg (by simp [byScan, Value.scannable]) ?_
  try refine wpAny_bind (wpAny_pure ?_)
  refine wpAny_bind (R.find hx hu (fun hm => ?_) fun K hm hK hB => ?_)
  · exact wpAny_pure (q false s.heap L es ep t (Heap.SameBut.refl a s.heap) R ⟨fun _ => rfl, fun z => absurd hm z⟩)
  have few := few hm
  dsimp only
  refine wpAny_bind (wpAny_setState_of ho hd R.fits ?_)
  dsimp only
  obtain ⟨g1, g2, g3, g4, g5, g6, g7, g8, g9⟩ := R.tab.put hK hB
  rw [List.length_map] at g2 g9
  generalize hj : way t.mask (k.hash w) K = j at g1 g2 g3 g4 g5 g6 g7 g8 g9 ⊢
  generalize hn : SetTable.below t.place j = n at g1 g2 g3
  generalize hp : t.put j = tp at g1 g3 g4 g5 g6 g7 g8 g9 ⊢
  obtain ⟨t1, n1⟩ := tp
  dsimp only at g1 g3 g4 g5 g6 g7 g8 g9 ⊢
  subst g1
  have pl1 : t1.plain = true := g6.trans R.plain
  have ld1 : w.params.followText "set-order" = true ∨ t1.led = true := by rw [g5]; exact R.led
  first
    | (refine wpAny_bind ?_; refine wp_if_pos pl1 ?_; refine flat_hash hx.flat ?_)
    | refine wp_if_pos pl1 (wpAny_bind (flat_hash hx.flat ?_))
  simp only [if_true]
  have pm : (L.take n1 ++ (k, b) :: L.drop n1).Perm ((k, b) :: L) := by
    have h : (L.take n1 ++ (k, b) :: L.drop n1).Perm ((k, b) :: (L.take n1 ++ L.drop n1)) := List.perm_middle
    rwa [List.take_append_drop] at h
  have hin : (SetTable.insertAt es n1 (k.hash w, Value.ref b)).toList = (L.take n1 ++ (k, b) :: L.drop n1).map (rowN w) := by
    rw [SetTable.toList_insertAt, R.rows, List.map_append, List.map_cons, List.map_take, List.map_drop]; rfl
  have hh : (L.map fun p => p.1.hash w).take n1 ++ k.hash w :: (L.map fun p => p.1.hash w).drop n1 = (L.take n1 ++ (k, b) :: L.drop n1).map fun p => p.1.hash w := by
    rw [List.map_append, List.map_cons, List.map_take, List.map_drop]
  rw [hh] at g3
  generalize L.take n1 ++ (k, b) :: L.drop n1 = L1 at pm hin g3
  generalize SetTable.insertAt es n1 (k.hash w, Value.ref b) = es1 at hin ⊢
  have l1 : L1.length = L.length + 1 := pm.length_eq
  have hs1 : es1.size = L.length + 1 := by rw [← Array.length_toList, hin, List.length_map, l1]
  have diff1 : (L1.map (·.1)).Nodup := (pm.map (·.1)).nodup_iff.mpr (List.nodup_cons.mpr ⟨hm, R.diff⟩)
  refine wpAny_bind (wpAny_storeSet_of ho hd ?_ (by rw [hs1, sizeLine_eq]; omega))
  have sb : Heap.SameBut a s.heap (s.heap.update a (Obj.putSet es1 t1)) := Heap.SameBut.update ..
  have ho1 := store_at (es' := es1) (t' := t1) ho hd
  generalize s.heap.update a (Obj.putSet es1 t1) = h1 at sb ho1 ⊢
  have tup1 : ∀ p ∈ L1, FK P w h1 p.1 p.2 := fun p hp => by
    rcases List.mem_cons.mp (pm.mem_iff.mp hp) with e | hp
    · subst e; exact hx.beside ho hd sb
    · exact (R.tup p hp).beside ho hd sb
  have put1 : Put L k b L1 := ⟨fun z => absurd z hm, fun _ => pm⟩
  have ftf : t1.tooFull = decide ((L.length + 1) * 5 ≥ t.mask * 3) := by
    unfold SetTable.tooFull
    rw [g9, g4]
  by_cases z : t1.tooFull = true
  · have hfull := z
    rw [ftf, decide_eq_true_eq] at hfull
    have h4 : t.mask = 7 ∧ L.length = 4 := by
      rcases R.tab.mok with e | e | e <;> rw [e] at hfull hroom
      · exact ⟨e, by omega⟩
      · omega
      · omega
    have pl : t1.place.size = es1.size := by
      have := g3.sz
      rw [List.length_map, l1] at this
      rw [this, hs1]
    have fit1 : t1.fits es1.size = true := by
      unfold SetTable.fits SetTable.fill
      rw [g3.dm, Bool.and_eq_true, beq_iff_eq, decide_eq_true_eq]
      refine ⟨pl, ?_⟩
      show t1.place.size + 0 ≤ t1.mask
      rw [pl, hs1, g4, h4.1, h4.2]; decide
    first
      | (refine wpAny_bind ?_; refine wp_if_pos (by simp [z]) ?_)
      | (refine wp_if_pos (by simp [z]) ?_; refine wpAny_bind ?_)
    rw [hlen, h4.2]
    refine ns_relay (s := { s with heap := h1 }) ho1 ⟨hex.1, hex.2.1, hex.2.2⟩ rfl hin fit1 diff1 tup1 pl1 ld1 (by rw [l1, h4.2]) fun h2 L2 es2 ep2 t2 sb2 R2 pm2 => ?_
    exact wpAny_pure (q true h2 L2 es2 ep2 t2 (sb.trans sb2) R2 ⟨fun y => absurd y hm, fun _ => pm2.trans pm⟩)
  · have hfull := z
    rw [ftf, decide_eq_true_eq] at hfull
    first
      | refine wp_if_neg (by simp [z]) ?_
      | (refine wpAny_bind ?_; refine wp_if_neg (by simp [z]) ?_; refine wpAny_pure ?_)
    exact wpAny_pure (q true h1 L1 es1 (ep + 1) t1 sb ⟨⟨_, ho1, ⟨hex.1, hex.2.1, hex.2.2⟩, rfl⟩, hin, g3, diff1, tup1, pl1, ld1, by rw [l1, g4]; omega⟩ put1)
end
/-- what stands in the set when the rows xs went in -/
structure InN (xs L : List FRow) : Prop where
  sub : ∀ p ∈ L, p ∈ xs
  all : ∀ p ∈ xs, p.1 ∈ L.map (·.1)
theorem InN.next {xs L L' : List FRow} {k : NestedKey} {b : Addr} (g : InN xs L) (h : Put L k b L') : InN (xs ++ [(k, b)]) L' := by
  by_cases z : k ∈ L.map (·.1)
  · rw [h.1 z]
    refine ⟨fun p hp => List.mem_append_left _ (g.sub p hp), fun p hp => ?_⟩
    rcases List.mem_append.mp hp with y | y
    · exact g.all p y
    · rw [List.mem_singleton.mp y]; exact z
  · have pm := h.2 z
    refine ⟨fun p hp => ?_, fun p hp => ?_⟩
    · rcases List.mem_cons.mp (pm.mem_iff.mp hp) with y | y
      · rw [y]; exact List.mem_append_right _ List.mem_cons_self
      · exact List.mem_append_left _ (g.sub p y)
    · rw [(pm.map (·.1)).mem_iff, List.map_cons]
      rcases List.mem_append.mp hp with y | y
      · exact List.mem_cons_of_mem _ (g.all p y)
      · rw [List.mem_singleton.mp y]; exact List.mem_cons_self
open Out (Rt)
section
variable {P : Program} {w : World} {A : Around} {E : Value → Shared → Prop} {s : Shared}
theorem putN_ok {d a : Addr} {xs : List (NestedKey × Addr × Value)} {k : NestedKey} {v : Value} {Q : Unit → Shared → Prop} (hu : (nestedKind P w).room A) (hkey : (nestedKind P w).is s.heap k a) (hm : s.heap.DictOfH (nestedKind P w) d xs)
    (hQ : ∀ h', h'.DictOfH (nestedKind P w) d (storedH xs k a v) → Heap.SameBut d s.heap h' → Q () { s with heap := h' }) (hsz : xs.length ≤ sizeLine) :
    wpAny (model P w) A (dictPut d ((nestedKind P w).hash k) (.ref a) v) Q E s := by
  obtain ⟨o, es, ep, ho, hc, hd, he, his, hn⟩ := hm
  unfold dictPut
  refine wpAny_bind (wpAny_dictFind_heap hu hkey ho hd he his hn ?_ ?_)
  · intro hno
    have hnot : k ∉ xs.map (·.1) := not_mem_keys_of_get hno
    refine wpAny_updateDictKeys (hz := by have e := size_of_entries he; omega) ho hd (hQ _ ⟨_, _, ep + 1, Heap.get?_update_self _ ho (Obj.isFreed_of_dict (Obj.data_mapDictKeys hd _)),
      hc.mapDictKeys _, Obj.data_mapDictKeys hd _, ?_, ?_, ?_⟩ (Heap.SameBut.update ..))
    · rw [storedH_new (atKey_none_of_get hno)]
      simp [he, entryOfKey]
    · rw [storedH_new (atKey_none_of_get hno)]
      intro x hx
      rcases List.mem_append.mp hx with hx | hx
      · exact (nestedKind P w).keeps (his x hx) ho hd (Heap.SameBut.update ..)
      · simp only [List.mem_singleton] at hx
        subst hx
        exact (nestedKind P w).keeps hkey ho hd (Heap.SameBut.update ..)
    · rw [storedH_new (atKey_none_of_get hno)]
      rw [List.map_append, List.nodup_append]
      refine ⟨hn, by simp, ?_⟩
      intro x hx y hy
      simp only [List.map_cons, List.map_nil, List.mem_singleton] at hy
      subst hy
      exact fun e => hnot (e ▸ hx)
  · intro j p hj
    refine wpAny_updateDict ho hd (hQ _ ⟨_, _, ep, Heap.get?_update_self _ ho (Obj.isFreed_of_dict (Obj.data_mapDict hd _)),
      hc.mapDict _, Obj.data_mapDict hd _, ?_, ?_, ?_⟩ (Heap.SameBut.update ..))
    · rw [storedH_old (atKey_of_get hn hj)]
      have := modify_map_putAt (entryOfKey (nestedKind P w)) (fun e : DictEntry => { e with val := v }) k v (fun _ _ => rfl) hn hj
      rw [← he] at this
      obtain ⟨l⟩ := es
      simpa using this
    · rw [storedH_old (atKey_of_get hn hj)]
      intro x hx
      obtain ⟨y, hy, rfl⟩ := List.mem_map.mp hx
      unfold putAt
      split <;> exact (nestedKind P w).keeps (his y hy) ho hd (Heap.SameBut.update ..)
    · rw [storedH_old (atKey_of_get hn hj)]
      rw [keys_map_putAt]; exact hn
theorem mergeN_ok {d o : Addr} {kvs more : List (NestedKey × Addr × Value)} {Q : Unit → Shared → Prop} (hu : (nestedKind P w).room A) (hdo : d ≠ o) (hoS : (o == sysModules) = false)
    (hd : s.heap.DictOfH (nestedKind P w) d kvs) (ho : s.heap.DictOfH (nestedKind P w) o more) (hap : kvs ≠ [] ∨ ((∀ x ∈ more, s.TypeIs (.ref x.2.1) "tuple") ∧ (more.map fun x => (nestedKind P w).hash x.1).Nodup))
    (hQ : ∀ h', h'.DictOfH (nestedKind P w) d (storedAllH kvs more) → Heap.SameBut d s.heap h' → Q () { s with heap := h' }) (hsz : kvs.length + more.length ≤ sizeLine) :
    wpAny (model P w) A (mergeMapping d (.ref o) false) Q E s := by
  obtain ⟨od, esd, epd, hod, hcd, hdd, hed, hisd, hnd⟩ := id hd
  obtain ⟨oo, eso, epo, hoo, hco, hdo', heo, hiso, hno⟩ := id ho
  have hlen : eso.size = more.length := size_of_entries heo
  have hT : s.TypeIs (.ref o) "dict" := ⟨oo, hoo, hco.1⟩
  unfold mergeMapping
  refine wpAny_bind (wpAny_isInstance hT PySem.isSubtype_dict_dict ?_)
  dsimp only
  rw [if_pos rfl]
  refine wpAny_bind (wpAny_specialOf hT PySem.F.slot_dict_iter.lookup (wpAny_bind (wpAny_pure ?_)))
  rw [show (some (Value.builtin "dict.__iter__") == some (Value.builtin "dict.__iter__")) = true from beq_self_eq_true _]
  dsimp only
  rw [if_neg (by rw [hoS]; exact Bool.false_ne_true)]
  have loop : wpAny (model P w) A (do
      let l ← dictEntries o
      let epoch ← dictEpoch o
      forIn (List.range l.size) PUnit.unit fun i (_ : PUnit) => (do
          let l' ← dictEntries o
          match l'[i]? with
            | some e => do
              holding [e.key, e.val] (dictPut d e.hash e.key e.val)
              let ep' ← dictEpoch o
              if (ep' != epoch) = true then do
                  (unsupported "dict.changed-during-merge" : Sem PUnit)
                  pure (ForInStep.yield PUnit.unit)
                else pure (ForInStep.yield PUnit.unit)
            | _ => do
              (unsupported "dict.changed-during-merge" : Sem PUnit)
              pure (ForInStep.yield PUnit.unit) : Sem (ForInStep PUnit))
      pure ()) Q E s := by
    refine wpAny_bind (wpAny_dictEntries hoo hdo' ?_)
    refine wpAny_bind (wpAny_dictEpoch hoo hdo' ?_)
    refine wpAny_bind ?_
    rw [List.range_eq_range']
    refine wpAny_forIn_list _
      (fun rest _ s' => ∃ h' i, s' = { s with heap := h' } ∧ rest = List.range' i (eso.size - i) ∧ i ≤ eso.size ∧ h'.DictOfH (nestedKind P w) d (storedAllH kvs (more.take i)) ∧ h'.DictOfH (nestedKind P w) o more ∧ h'.get? o = some oo ∧ Heap.SameBut d s.heap h')
      _ ?_ ?_ _ _ ⟨s.heap, 0, rfl, rfl, Nat.zero_le _, by simpa [storedAllH] using hd, ho, hoo, Heap.SameBut.refl _ _⟩
    · rintro x rest b s' ⟨h', i, rfl, hr, hi, hd', ho', hoo', hs'⟩
      have hlt : i < eso.size := by
        rcases Nat.lt_or_ge i eso.size with h | h
        · exact h
        · rw [Nat.sub_eq_zero_of_le h] at hr; cases hr
      have hs1 : eso.size - i = (eso.size - (i + 1)) + 1 := by omega
      rw [hs1, List.range'_succ] at hr
      obtain ⟨rfl, hrest⟩ := List.cons.inj hr
      refine wpAny_bind (wpAny_dictEntries hoo' hdo' ?_)
      obtain ⟨⟨k, a, v⟩, hkv⟩ : ∃ kv, more[x]? = some kv := ⟨more[x]'(by rw [← hlen]; exact hlt), List.getElem?_eq_getElem _⟩
      rw [entry_at heo x, hkv]
      show wpAny _ _ (holding [.ref a, v] (dictPut d ((nestedKind P w).hash k) (.ref a) v) >>= _) _ _ _
      have hmx : (storedAllH kvs (more.take x)).length ≤ sizeLine := by
        have e1 := storedAllH_length (more.take x) kvs
        have e2 : (more.take x).length ≤ more.length := by rw [List.length_take]; omega
        omega
      have hkey : (nestedKind P w).is h' k a := by
        obtain ⟨_, _, _, _, _, _, _, his', _⟩ := ho'
        exact his' (k, a, v) (List.mem_of_getElem? hkv)
      refine wpAny_bind (wpAny_holding (putN_ok (s := { s with heap := h' }) hu hkey hd' (fun h'' hd'' hs'' => ?_) hmx))
      have hoo'' : h''.get? o = some oo := (hs''.2 o (Ne.symm hdo)).trans hoo'
      refine wpAny_bind (wpAny_dictEpoch hoo'' hdo' ?_)
      rw [if_neg (by simp)]
      exact wpAny_pure ⟨h'', x + 1, rfl, hrest, hlt, by rw [storedAllH_take_succ kvs more x (k, a, v) hkv]; exact hd'', ho'.notHere hd' hdo hs'', hoo'', hs'.trans hs''⟩
    · rintro b s' ⟨h', i, rfl, hr, hi, hd', ho', hoo', hs'⟩
      have hin : i = eso.size := by
        rcases Nat.lt_or_ge i eso.size with h | h
        · have e : eso.size - i = (eso.size - (i + 1)) + 1 := by omega
          rw [e, List.range'_succ] at hr
          cases hr
        · exact Nat.le_antisymm hi h
      refine wpAny_pure (hQ h' ?_ hs')
      rw [hin, hlen, List.take_length] at hd'
      exact hd'
  refine wpAny_bind (wpAny_dictEntries hod hdd ?_)
  split
  · rename_i hemp
    have hkvs : kvs = [] := by
      have h0 : esd = #[] := Array.isEmpty_iff.mp hemp
      have := size_of_entries hed
      rw [h0] at this
      exact List.length_eq_zero_iff.mp (by simpa using this.symm)
    have hap' := hap.resolve_left fun h => h hkvs
    have hall := keysApart heo hap'.1 hap'.2
    refine wpAny_bind (wpAny_dictEntries hoo hdo' ?_)
    refine wpAny_bind (wpAny_forIn_array' _ (fun rest _ s' => s' = s ∧ ∀ e ∈ rest, KeyApart s eso e) _ ?_ ?_ _ _ ⟨rfl, fun e he => hall e (by simpa using he)⟩)
    · rintro x rest b s' ⟨rfl, hk⟩
      have hrest : ∀ e ∈ rest, KeyApart s' eso e := fun e he => hk e (List.mem_cons_of_mem _ he)
      rcases hk x List.mem_cons_self with hv | ⟨a, hka, hTa, h1⟩
      · cases hkx : x.key with
        | ref a => rw [hkx] at hv; cases hv
        | _ => exact wpAny_pure ⟨rfl, hrest⟩
      · rw [hka]
        refine wpAny_bind (wpAny_specialOf hTa F.slot_tuple_eq.lookup ?_)
        refine wpAny_ite_split (fun _ => ?_) (fun _ => wpAny_pure ⟨rfl, hrest⟩)
        rw [if_neg (by omega)]
        exact wpAny_pure ⟨rfl, hrest⟩
    · rintro b s' ⟨rfl, _⟩
      exact loop
  · exact loop
end
section
variable {X : Cy} {a b : Expr} {ta tb : TE} {pos : Pos} {r : Env2} {G : GD}
/-- these keys may be copied: tuples of different hashes -/
structure HashOk (w : World) (us : List KdE) : Prop where
  tp : ∀ x ∈ us, ∃ ks, x.1 = .tup ks
  nd : (us.map fun x => x.1.hash w).Nodup
theorem kdr_hash {w : World} : ∀ {xs : List KdE} {ys : List (NestedKey × Addr × Value)}, Paired KdR xs ys → (ys.map fun x => x.1.hash w) = xs.map fun x => x.1.hash w
  | _, _, .nil => rfl
  | _, _, .cons h t => by rw [List.map_cons, List.map_cons, kdr_hash t, h.1]
theorem d_mergeN {X : Cx} {pins : List (Addr × Obj)} {σ : L2.St} {H : Hp} {s : Shared} {A : Around} {E : Value → Shared → Prop} {D p : Addr} {acc kvs : List KdE} {Q : Unit → Shared → Prop} (I : Inv X pins σ H s) (hu : A.units + 8 < cLine) (hD : H D = some (KdO X.w D acc)) (hp : KdRd X.w H p kvs)
    (hacc : ∀ x ∈ acc, KyAt X.K H x) (hk : ∀ x ∈ kvs, KyAt X.K H x) (hne : p ≠ D) (hsz : acc.length + kvs.length ≤ sizeLine) (hap : acc ≠ [] ∨ HashOk X.w kvs)
    (q : ∀ s', Inv X pins σ (upd H D (KdO X.w D (mrgN acc kvs))) s' → Q () s') : wpAny (model X.prog X.w) A (mergeMapping D (.ref p) false) Q E s := by
  obtain ⟨g1, g2, g3, _⟩ := kd_at I.hok (.inl hD)
  obtain ⟨z1, ys, g, dd⟩ := kd_dict I (.inl hD) hacc
  obtain ⟨z2, zs, g', dd'⟩ := kd_dict I hp hk
  have l1 := Paired.length g
  have l2 := Paired.length g'
  have hl := mrgN_len kvs acc
  refine mergeN_ok hu hne.symm z2 dd dd' ?_ (fun h' dm hs => q _ ?_) (by omega)
  · rcases hap with ha | ⟨h1, h2⟩
    · refine .inl fun z => ha ?_
      rw [z] at l1
      exact List.length_eq_zero_iff.mp l1
    · refine .inr ⟨fun x hx => ?_, ?_⟩
      · obtain ⟨y, hy, e1, e2, _⟩ := kdr_mem g' hx
        obtain ⟨ks, ek⟩ := h1 y hy
        have hi := ((hk y hy).is I).1
        rw [ek] at hi
        rw [e2]
        cases hi with
        | tup a1 a2 _ _ => exact ⟨_, a1, a2⟩
      · show (zs.map fun x => x.1.hash X.w).Nodup
        rw [kdr_hash g']; exact h2
  · have he : ∃ q, h'.get? D = some q := let ⟨q, _, _, hq, _⟩ := dm; ⟨q, hq⟩
    exact d_write I (by rw [hD]; exact True.intro) hs he (kd_new g1 (by omega) (mrgN_nd kvs acc g3) (mrgN_rel g g') dm)
def tMrgN (X : Cx) (ta tb : TE) : TE := fun σ H Q => ∀ D, H D = none → ta σ (upd H D (KdO X.w D [])) fun x H1 => ∃ p kvs, x = .ref p ∧ KdRd X.w H1 p kvs ∧ p ≠ D ∧ H1 D = some (KdO X.w D []) ∧ kvs.length ≤ LIM2 ∧ (∀ x ∈ kvs, KyAt X.K H1 x) ∧ HashOk X.w kvs ∧
  tb σ (upd H1 D (KdO X.w D (mrgN [] kvs))) fun y H2 => ∃ q kws, y = .ref q ∧ KdRd X.w H2 q kws ∧ q ≠ D ∧ H2 D = some (KdO X.w D (mrgN [] kvs)) ∧ kws.length ≤ LIM2 ∧ (∀ x ∈ mrgN [] kvs, KyAt X.K H2 x) ∧ (∀ x ∈ kws, KyAt X.K H2 x) ∧ (mrgN [] kvs ≠ [] ∨ HashOk X.w kws) ∧ Q (.ref D) (upd H2 D (KdO X.w D (mrgN (mrgN [] kvs) kws)))
theorem pe_mrgN {X : Cx} (hu : X.A.units + 64 < cLine) (ha : PE X a ta) (hb : PE X b tb) : PE X (.Dict [none, none] [a, b] pos) (tMrgN X ta tb) := by
  refine ⟨fun pins s σ H Q I h => ?_⟩
  have big : ∀ {n m : Nat}, n ≤ LIM2 → m ≤ LIM2 → n + m ≤ sizeLine := fun h1 h2 => by
    have := sizeLine_eq
    unfold LIM2 at h1 h2
    omega
  rw [arm_eval_Dict]
  refine wpAny_bind (wpAny_standAt ?_)
  show wpAny _ _ (dictDisplay [(none, do let x ← eval a X.env; standAt pos; pure x), (none, do let x ← eval b X.env; standAt pos; pure x)]) _ _ _
  unfold dictDisplay
  simp only [List.forIn_cons, List.forIn_nil, List.isEmpty_nil, if_true, bind_assoc, pure_bind]
  refine wpAny_bind (wpAny_alloc ?_)
  have I0 : Inv X pins σ (upd H s.heap.objs.size (KdO X.w s.heap.objs.size [])) { s with heap := s.heap.push { cls := .type "dict", data := .dict #[] } } :=
    I.laid (a := s.heap.objs.size) (o := KdO X.w s.heap.objs.size []) (t' := s.toks) (fun _ _ q => Heap.get?_push_of_some _ q) (Nat.le_refl _) (kd_empty s.heap I.big)
  have h0 := h _ (I.hok.fresh (Nat.le_refl _))
  generalize s.heap.objs.size = D at I0 h0 ⊢
  refine wpAny_bind (wpAny_holding (wpAny_bind (thn (ha.run pins _ σ _ _ I0 h0) fun u s1 ⟨x, H1, I1, rx, p, kvs, ex, hp, hpD, hD1, hl1, hky, hho, h1⟩ => wpAny_bind (wpAny_standAt (wpAny_pure ?_)))))
  subst ex
  obtain rfl : u = Value.ref p := rx
  refine wpAny_bind (wpAny_onRaise (wpAny_tryCatch (wpAny_onRaise (wpAny_holding (d_mergeN (acc := []) I1 (show X.A.units + 8 < cLine by omega) hD1 hp (fun x hx => by cases hx) hky hpD (big (Nat.zero_le _) hl1) (.inr hho) fun s2 I2 => ?_)))))
  refine wpAny_bind (wpAny_holding (wpAny_bind (thn (hb.run pins _ σ _ _ I2 h1) fun u2 s3 ⟨y, H3, I3, ry, p2, kws, ey, hp2, hpD2, hD3, hl3, hky2, hky3, hho2, h3⟩ => wpAny_bind (wpAny_standAt (wpAny_pure ?_)))))
  subst ey
  obtain rfl : u2 = Value.ref p2 := ry
  have hm := mrgN_len kvs []
  refine wpAny_bind (wpAny_onRaise (wpAny_tryCatch (wpAny_onRaise (wpAny_holding (d_mergeN I3 (show X.A.units + 8 < cLine by omega) hD3 hp2 hky2 hky3 hpD2 (big (by rw [List.length_nil] at hm; omega) hl3) hho2 fun s4 I4 => ?_)))))
  exact wpAny_pure ⟨.ref D, _, I4, rfl, h3⟩
end
theorem dput_ne {κ ν : Type} [DecidableEq κ] {kvs : List (κ × ν)} {k : κ} {v : ν} : dput kvs k v ≠ [] := by
  unfold dput
  split
  · rename_i h
    intro z
    rw [List.map_eq_nil_iff.mp z] at h
    cases h
  · simp
theorem fold_dput_ne {κ ν : Type} [DecidableEq κ] : ∀ (xs acc : List (κ × ν)), acc ≠ [] → xs.foldl (fun a p => dput a p.1 p.2) acc ≠ []
  | [], _, h => h
  | x :: xs, acc, _ => fold_dput_ne xs (dput acc x.1 x.2) dput_ne
/-- hash(a tuple of ints) -/
def thash (xs : List Int) : Int := reduceHash (Builtin.Tuple.tupleHashOf (xs.map hashInt))
theorem hashes_ints (w : World) : ∀ xs : List Int, NestedKey.hashes w (nkDs (xs.map eI)) = xs.map hashInt
  | [] => rfl
  | x :: xs => by show NestedKey.hash w (.num x) :: NestedKey.hashes w (nkDs (xs.map eI)) = _; rw [hashes_ints w xs]; rfl
theorem hash_ints (w : World) (xs : List Int) : (nkD ((eT eI) xs)).hash w = thash xs := by
  show reduceHash (Builtin.Tuple.tupleHashOf (NestedKey.hashes w (nkDs (xs.map eI)))) = _
  rw [hashes_ints]; rfl
theorem krep_hash {K : PySem.W.Frag} {F : Hp} {ν : Type} {f : ν → D} (w : World) : ∀ {acc : List (List Int × ν)} {us : List KdE}, KRep K F (eKl (eT eI) f acc) us → (us.map fun x => x.1.hash w) = (acc.map (·.1)).map thash ∧ ∀ x ∈ us, ∃ ks, x.1 = .tup ks
  | [], us, h => by rw [show us = [] from h]; exact ⟨rfl, fun x hx => nomatch hx⟩
  | p :: acc, _, ⟨u, us', h1, h2, _, _, h5⟩ => by
    subst h1
    obtain ⟨z1, z2⟩ := krep_hash w h5
    have h2 : u.1 = nkD ((eT eI) p.1) := h2
    refine ⟨?_, fun x hx => ?_⟩
    · rw [List.map_cons, List.map_cons, List.map_cons, z1, h2, hash_ints]
    · rcases List.mem_cons.mp hx with e | e
      · subst e; exact ⟨_, h2⟩
      · exact z2 x e
section
variable {X : Cy} {a b : Expr} {pos : Pos} {r : Env2} {G : GD} {ν : Type} {f : ν → D}
/-- {**a, **b}, the keys tuples of ints -/
theorem we_mrgK {Q : Res → Env2 → GD → Prop} (hky : KyC (eT eI)) (hu : X.A.units + 64 < cLine) (h : WE X a r G fun x r1 G1 => ∃ (acc : List (List Int × ν)) (r2 : Env2), fz r1 x = some (eKd X.w (eT eI) f acc, r2) ∧ (acc.length ≤ LIM2 ∧ ((acc.map (·.1)).map thash).Nodup) ∧
      WE X b r2 G1 fun y r3 G3 => ∃ (bcc : List (List Int × ν)) (r4 : Env2), fz r3 y = some (eKd X.w (eT eI) f bcc, r4) ∧ (bcc.length ≤ LIM2 ∧ (acc.length = 0 → bcc.length = 0)) ∧ Q (.fr (eKd X.w (eT eI) f (bcc.foldl (fun a p => dput a p.1 p.2) (dmk acc)))) r4 G3) :
    WE X (.Dict [none, none] [a, b] pos) r G Q := fun F0 T F H σ lk S => Run.of (pe_mrgN hu peR peR) fun L hD => by
  obtain ⟨f1, f2, f3⟩ := S.bas.freshF hD
  have f0 : F0 L = none := by
    cases e : F0 L with
    | none => rfl
    | some u => rw [S.bas.ff L u e] at f1; cases f1
  have go : ∀ {F1 : Hp} {v : V} {acc : List (List Int × ν)}, F1 L = none → Rep X.K F1 (eKd X.w (eT eI) f acc) v → ∃ p us, v = .ref p ∧ (∃ ob, F1 p = some (.frz ob (KdO X.w p us))) ∧ p ≠ L ∧ KRep X.K F1 (eKl (eT eI) f acc) us := fun {F1 v acc} hF rp => by
    rw [← eKd_kdD] at rp
    obtain ⟨p, ob, es, h1, h2, h3, h4, h5⟩ := rp
    refine ⟨p, es, h1, ⟨ob, h2⟩, fun z => ?_, KRep.of h3 h4 h5⟩
    subst z
    rw [hF] at h2; cases h2
  have ln : ∀ {F1 : Hp} {acc : List (List Int × ν)} {us : List KdE}, KRep X.K F1 (eKl (eT eI) f acc) us → us.length = acc.length := fun hk => by rw [hk.length]; unfold eKl; rw [List.length_map]
  refine (h F0 _ F _ σ (lk.ext (Ex.new f3)) (S.tbegin hD (KdO X.w L []) f0)).mono fun v H1 ⟨x, r1, G1, F1, e1, S1, k1, acc, r2, q1, ⟨hl1, hn1⟩, q2⟩ => ?_
  obtain ⟨Fa, ea, Sa, rp⟩ := S1.fz k1 q1
  obtain ⟨t1, t2, t3⟩ := Sa.tF f0
  obtain ⟨p, us, rfl, ⟨ob, z1⟩, z2, z3⟩ := go t1 rp
  have hh := krep_hash X.w z3
  refine ⟨p, us, rfl, .inr ⟨ob, Sa.bas.fh _ _ z1⟩, z2, t3, by rw [ln z3]; exact hl1, z3.ky Sa.bas.fh (eKl_ky hky acc), ⟨hh.2, by rw [hh.1]; exact hn1⟩, ?_⟩
  refine (q2 F0 _ Fa _ σ (lk.ext (Ex.new f3)) (Sa.tput f0 _)).mono fun v3 H3 ⟨y, r3, G3, F3, e3, S3, k3, bcc, r4, q3, ⟨hl3, hz3⟩, q4⟩ => ?_
  obtain ⟨Fb, eb, Sb, rp3⟩ := S3.fz k3 q3
  obtain ⟨u1, u2, u3⟩ := Sb.tF f0
  obtain ⟨p2, ws, rfl, ⟨ob2, y1⟩, y2, y3⟩ := go u1 rp3
  have m0 : KRep X.K Fb (eKl (eT eI) f (dmk acc)) (mrgN [] us) := mrgN_rep hky (acc := []) (ws := []) rfl (z3.mono (e3.trans eb))
  have m1 := mrgN_rep hky m0 y3
  refine ⟨p2, ws, rfl, .inr ⟨ob2, Sb.bas.fh _ _ y1⟩, y2, u3, by rw [ln y3]; exact hl3, m0.ky Sb.bas.fh (eKl_ky hky _), y3.ky Sb.bas.fh (eKl_ky hky _), ?_, ?_⟩
  · by_cases e : acc.length = 0
    · refine .inr ?_
      have e2 := hz3 e
      rw [← ln y3] at e2
      rw [List.length_eq_zero_iff.mp e2]
      exact ⟨fun x hx => (nomatch hx), List.nodup_nil⟩
    · refine .inl fun z => ?_
      have := ln m0
      rw [z] at this
      cases hacc : acc with
      | nil => exact e (by rw [hacc]; rfl)
      | cons q acc' =>
        rw [hacc] at this
        exact fold_dput_ne acc' _ dput_ne (List.length_eq_zero_iff.mp this.symm)
  obtain ⟨Sc, ow⟩ := (Sb.tput f0 (KdO X.w L (mrgN (mrgN [] us) ws))).tend f0 f3
  have owd := own_kdD (w := X.w) (H := upd H3 L (KdO X.w L (mrgN (mrgN [] us) ws))) m1 upd_same
  rw [eKd_kdD] at owd
  exact ⟨.fr (eKd X.w (eT eI) f _), r4, G3, Fb, ((e1.trans ea).trans e3).trans eb, Sc, ⟨L, rfl, owd, u1, u2, f3, ow⟩, q4⟩
end
open Out (Rt)
section
variable {X : Cy} {e o : Expr} {r : Env2} {G : GD} {apos cpos : Pos}
theorem ints_of {K : PySem.W.Frag} {F : Hp} : ∀ {ns : List Int} {vs : List V}, RepL K F (ns.map D.int) vs → vs = ns.map V.int
  | [], _, h => h
  | n :: ns, _, ⟨v, vs', h1, h2, h3⟩ => by
    rw [h1, show v = V.int n from h2, ints_of h3]; rfl
theorem rep_ints {K : PySem.W.Frag} {F : Hp} : ∀ ns : List Int, RepL K F (ns.map D.int) (ns.map V.int)
  | [] => rfl
  | n :: ns => ⟨_, _, rfl, rfl, rep_ints ns⟩
theorem mw_remove {ns : List Int} {k : Int} {j : Nat} {Kt : D → List D → Prop} (hj : idxI k ns = some j) (q : Kt .non ((ns.eraseIdx j).map D.int)) : MutW X "list.remove" (ns.map D.int) [.int k] Kt := fun F H p vs us hp hf ex h1 h2 => by
  obtain ⟨v, u', rfl, h3, h4⟩ := h2
  cases (show u' = [] from h4)
  cases (show v = .int k from h3)
  have e := ints_of h1
  subst e
  obtain ⟨k1, k2⟩ := idxI_spec hj
  exact ⟨_, mt_remove, p, ns, k, j, rfl, rfl, hp, k1, k2, (ns.eraseIdx j).map V.int, .non, _, rfl, rfl, rep_ints _, q⟩
/-- xs.remove(k), xs an own list of ints -/
theorem we_removeT {Q : Res → Env2 → GD → Prop}
    (h : WE X o r G fun x r1 G1 => ∃ i xs0, x = .pk i ∧ r1[i]? = some (.own (.lst (List.map eI xs0))) ∧ WE X e r1 G1 fun y r2 G2 => ∃ (k : Int) (xs : List Int) (j : Nat), y = .sh (.int k) ∧ r2[i]? = some (.own (.lst (List.map eI xs))) ∧ idxI k xs = some j ∧ Q (.sh .non) (r2.set i (.own (.lst ((xs.eraseIdx j).map eI)))) G2)
    (hbase : attributeBase o "remove" X.env (eval o X.env) = eval o X.env := by rfl)
    (hfew : ((backTo cpos (starEach [e] X.env)).all (fun x => !x.1) && (backToKw cpos (keywordEach [] X.env)).all (fun x => x.1.isSome) && decide (([e] : List Expr).length + ([] : List Keyword).length + (if ([] : List Keyword).isEmpty then 0 else 1) < 30)) = true := by rfl)
    (hline : (apos.endLine == cpos.line) = true := by rfl) (hs : starEach [e] X.env = (false, eval e X.env) :: starEach [] X.env := by rfl) (hplain : (backTo cpos (starEach [] X.env)).any (·.1) = false := by rfl) :
    WE X (.Call (.Attribute o "remove" apos) [e] [] cpos) r G Q :=
  we_m1 PySem.F.plainAttrs_list PySem.F.slot_list_remove PySem.F.type_list_remove (h.mono fun x r1 G1 ⟨i, xs0, h1, h2, h3⟩ => ⟨i, _, h1, h2, h3.mono fun y r2 G2 ⟨k, xs, j, k1, k2, k3, k4⟩ => by
    subst k1
    exact ⟨.int k, r2, _, rfl, k2, mw_remove k3 k4⟩⟩) hbase hfew hline hs hplain
end
open Out (Rt)
structure KTup (K : PySem.W.Frag) (mg : Str → Option Value) (x : Str) (ns : List Int) : Prop where
  ex : ∃ (a : Addr) (o : Obj) (its : Array Value) (n : Nat), mg x = some (.ref a) ∧ K.lookup a = some o ∧ o.cls = .type "tuple" ∧ o.data = .seq its n ∧ its.size ≤ sizeLine ∧ Vals (ns.map V.int) its.toList
theorem vals_ints : ∀ {ns : List Int} {us : List Value}, ns.length = us.length → (∀ p ∈ ns.zip us, ∃ t, p.2 = .int p.1 t) → Vals (ns.map V.int) us
  | [], [], _, _ => .nil
  | [], _ :: _, h, _ => by simp at h
  | _ :: _, [], h, _ => by simp at h
  | n :: ns, u :: us, h, k => by
    obtain ⟨t, e⟩ := k (n, u) (by simp)
    exact .cons ⟨t, e⟩ (vals_ints (by simpa using h) fun p hp => k p (by rw [List.zip_cons_cons]; exact List.mem_cons_of_mem _ hp))
section
variable {X : Cy} {r : Env2} {G : GD} {p0 : Pos}
theorem we_ktup {x : Str} {ns : List Int} {Q : Res → Env2 → GD → Prop} (T : KTup X.K X.mg x ns) (hg : Gl X x) (q : Q (.sh ((eT eI) ns)) r G) (hd : (x == ("__debug__" : Str)) = false := by decide) : WE X (.Name x p0) r G Q := by
  obtain ⟨a, o, its, n, hm, h1, h2, h3, h4, h5⟩ := T.ex
  exact fun F0 T0 F H σ lk S => Run.of (pe_glob hg hm (v := .ref a) rfl hd) ⟨.sh ((eT eI) ns), r, G, F, Ex.refl _, S, ⟨a, ns.map V.int, rfl, .inr ⟨o, its, n, h1, h2, h3, h4, h5⟩, rep_ints ns⟩, q⟩
end
open Out (Rt)
section
variable {X : Cy} {a b : Expr} {es : List Expr} {r : Env2} {G : GD} {pos : Pos} {D0 : EndsD}
theorem ws_parNH {ts : List Expr} {kt k2 : Nat} {pt pt2 : Pos} (ixs : List Nat) (hc : X.calm = true) (hp : All2 (fun t i => PG X t (gName i)) ts ixs) (hst : ∀ t ∈ ts, ∀ us, (assignEach (t :: us) X.env).map (·.2) = assign t X.env :: (assignEach us X.env).map (·.2))
    (h : WN X es r G fun zs r1 G1 => zs.length = ixs.length ∧ zs.length ≤ 100 ∧ (∀ i, i ∈ ixs → i < r1.length) ∧ D0.nx ((ixs.zip zs).foldl (fun r p => r.set p.1 (slO p.2)) r1) G1)
    (hn : (assignEach ts X.env).length = ixs.length := by rfl) (hf : (assignEach ts X.env).findIdx? (·.1) = none := by rfl)
    (hs : swapsWithSole [.Tuple ts kt pt] (.Tuple es k2 pt2) pos.line X.env = pure false := by rfl) (hw : swappedStores [.Tuple ts kt pt] (.Tuple es k2 pt2) X.env = pure none := by rfl)
    (h1 : (assignEach [.Tuple ts kt pt] X.env).map (·.2) = [assign (.Tuple ts kt pt) X.env] := by rfl) :
    Hold (WS X (.Assign [.Tuple ts kt pt] (.Tuple es k2 pt2) pos) r G D0) := ⟨ws_parN ixs hc hp hst h hn hf hs hw h1⟩
end
open L2 (ixN)
namespace Out
variable {α β σ ρ : Type}
/-- it ends with a value of which Q holds -/
def yes (m : Out α) (Q : α → Prop) : Prop := ∃ a, m = .ok a ∧ Q a
theorem yes_ok {a : α} {Q : α → Prop} (h : Q a) : (Out.ok a).yes Q := ⟨a, rfl, h⟩
theorem yes.mono {m : Out α} {Q Q' : α → Prop} (h : m.yes Q) (k : ∀ a, Q a → Q' a) : m.yes Q' := by
  obtain ⟨a, h1, h2⟩ := h; exact ⟨a, h1, k a h2⟩
theorem yes_bind {m : Out α} {f : α → Out β} {Q : β → Prop} {R : α → Prop} (h : m.yes R) (k : ∀ a, R a → (f a).yes Q) : (m.bind f).yes Q := by
  obtain ⟨a, rfl, h2⟩ := h; exact k a h2
theorem yes.eq {m : Out α} {a : α} (h : m.yes (· = a)) : m = .ok a := by obtain ⟨b, h1, h2⟩ := h; rw [h1, h2]
theorem bind_guard {p : Prop} [Decidable p] (h : p) {f : Unit → Out β} : (guard p).bind f = f () := by rw [guard_pos h]; rfl
theorem bind_get {o : Option α} {a : α} (h : o = some a) {f : α → Out β} : (get o).bind f = f a := by rw [h]; rfl
theorem yes_guard {p : Prop} [Decidable p] (h : p) {f : Unit → Out β} {Q : β → Prop} (k : (f ()).yes Q) : ((guard p).bind f).yes Q := by rw [bind_guard h]; exact k
theorem yes_get {o : Option α} {a : α} (h : o = some a) {f : α → Out β} {Q : β → Prop} (k : (f a).yes Q) : ((get o).bind f).yes Q := by rw [bind_get h]; exact k
theorem yes_let {a : α} {f : α → Out β} {Q : β → Prop} (k : (f a).yes Q) : ((Out.ok a).bind f).yes Q := k
theorem yes_ifF {c : Bool} {a b : Out α} {Q : α → Prop} (h : c = false) (k : b.yes Q) : (if c = true then a else b).yes Q := by rw [if_neg (by rw [h]; exact Bool.false_ne_true)]; exact k
theorem yes_if {c : Bool} {a b : Out α} {Q : α → Prop} (h : c = true → a.yes Q) (k : c = false → b.yes Q) : (if c = true then a else b).yes Q := by
  cases c with
  | true => exact h rfl
  | false => exact k rfl
theorem bind_assoc {γ : Type} {m : Out α} {f : α → Out β} {g : β → Out γ} : (m.bind f).bind g = m.bind fun a => (f a).bind g := by cases m <;> rfl
/-- loops: an invariant over what was done so far -/
theorem fold_yes {f : σ → α → Out σ} (I : List α → σ → Prop) : ∀ (xs : List α) (s0 : σ), I [] s0 → (∀ pre x post s, xs = pre ++ x :: post → I pre s → (f s x).yes (I (pre ++ [x]))) → (fold f xs s0).yes (I xs) := by
  have key : ∀ (xs : List α) (pre : List α) (s : σ), I pre s → (∀ p x post s, pre ++ xs = p ++ x :: post → pre.length ≤ p.length → I p s → (f s x).yes (I (p ++ [x]))) → (fold f xs s).yes (I (pre ++ xs)) := by
    intro xs
    induction xs with
    | nil => intro pre s h0 _; rw [List.append_nil]; exact yes_ok h0
    | cons x xs ih =>
      intro pre s h0 hs
      refine yes_bind (hs pre x xs s rfl (Nat.le_refl _) h0) fun s' h' => ?_
      have := ih (pre ++ [x]) s' h' fun p y post s e hl hI => hs p y post s (by rw [← e, List.append_assoc]; rfl) (by rw [List.length_append] at hl; exact Nat.le_trans (Nat.le_add_right _ _) hl) hI
      rw [List.append_assoc] at this
      exact this
  intro xs s0 h0 hs
  exact key xs [] s0 h0 fun p x post s e _ hI => hs p x post s e hI
theorem fold_nil {f : σ → α → Out σ} {s : σ} : fold f [] s = .ok s := rfl
theorem fold_cons {f : σ → α → Out σ} {s : σ} {x : α} {xs : List α} : fold f (x :: xs) s = (f s x).bind (fold f xs) := rfl
theorem loop_cons {f : σ → α → Out (Rt σ ρ)} {s : σ} {x : α} {xs : List α} : loop f (x :: xs) s = (f s x).bind fun t => match t with
    | .nx s' => loop f xs s'
    | .rt v => .ok (.rt v) := rfl
/-- loops with a return: an invariant, and what a return says -/
theorem loop_yes {f : σ → α → Out (Rt σ ρ)} (I : List α → σ → Prop) (R : ρ → Prop) : ∀ (xs : List α) (s0 : σ), I [] s0 → (∀ pre x post s, xs = pre ++ x :: post → I pre s → (f s x).yes fun t => match t with | .nx s' => I (pre ++ [x]) s' | .rt v => R v) → (loop f xs s0).yes fun t => match t with | .nx s' => I xs s' | .rt v => R v := by
  have key : ∀ (xs : List α) (pre : List α) (s : σ), I pre s → (∀ p x post s, pre ++ xs = p ++ x :: post → pre.length ≤ p.length → I p s → (f s x).yes fun t => match t with | .nx s' => I (p ++ [x]) s' | .rt v => R v) → (loop f xs s).yes fun t => match t with | .nx s' => I (pre ++ xs) s' | .rt v => R v := by
    intro xs
    induction xs with
    | nil => intro pre s h0 _; rw [List.append_nil]; exact yes_ok h0
    | cons x xs ih =>
      intro pre s h0 hs
      refine yes_bind (hs pre x xs s rfl (Nat.le_refl _) h0) fun t h' => ?_
      cases t with
      | nx s' =>
        have := ih (pre ++ [x]) s' h' fun p y post s e hl hI => hs p y post s (by rw [← e, List.append_assoc]; rfl) (by rw [List.length_append] at hl; exact Nat.le_trans (Nat.le_add_right _ _) hl) hI
        rw [List.append_assoc] at this
        exact this
      | rt v => exact yes_ok h'
  intro xs s0 h0 hs
  exact key xs [] s0 h0 fun p x post s e _ hI => hs p x post s e hI
/-- comprehensions -/
theorem compS_unit {f : Unit → α → Out (Option β × Unit)} {o : α → Option β} : ∀ (xs : List α) (acc : List β), (∀ x, x ∈ xs → f () x = .ok (o x, ())) → compS f xs acc () = .ok (acc ++ xs.filterMap o, ())
  | [], acc, _ => by unfold compS; simp
  | x :: xs, acc, h => by
    unfold compS
    rw [h x List.mem_cons_self, bind_ok]
    rw [compS_unit xs _ fun y hy => h y (List.mem_cons_of_mem _ hy)]
    cases hx : o x with
    | none => simp [hx]
    | some y => simp [hx]
end Out
open Out (Rt)
section
variable {α β : Type}
theorem perm_of_mem [DecidableEq α] {xs ys : List α} (hx : xs.Nodup) (hy : ys.Nodup) (h : ∀ a, a ∈ xs ↔ a ∈ ys) : xs.Perm ys := by
  rw [List.perm_iff_count]
  intro a
  by_cases ha : a ∈ xs
  · have h1 := List.nodup_iff_count.mp hx a
    have h2 := List.nodup_iff_count.mp hy a
    have h3 := List.count_pos_iff.mpr ha
    have h4 := List.count_pos_iff.mpr ((h a).mp ha)
    omega
  · rw [List.count_eq_zero_of_not_mem ha, List.count_eq_zero_of_not_mem fun z => ha ((h a).mpr z)]
theorem nodup_of_lt {xs : List Int} (h : xs.Pairwise (· < ·)) : xs.Nodup := h.imp fun h => by omega
theorem le_of_lt {xs : List Int} (h : xs.Pairwise (· < ·)) : xs.Pairwise (· ≤ ·) := h.imp fun h => by omega
theorem sorted_ext {xs ys : List Int} (hx : xs.Pairwise (· < ·)) (hy : ys.Pairwise (· < ·)) (h : ∀ a, a ∈ xs ↔ a ∈ ys) : xs = ys :=
  sorted_unique (perm_of_mem (nodup_of_lt hx) (nodup_of_lt hy) h) (le_of_lt hx) (le_of_lt hy)
theorem mem_isort {xs : List Int} {a : Int} : a ∈ isort xs ↔ a ∈ xs := (isort_perm xs).mem_iff
theorem isort_lt {xs : List Int} (h : xs.Nodup) : (isort xs).Pairwise (· < ·) := by
  have h1 := isort_sorted xs
  have h2 : (isort xs).Nodup := (isort_perm xs).nodup_iff.mpr h
  have := h1.and h2
  exact this.imp fun ⟨a, b⟩ => by omega
theorem mem_rgI {a b x : Int} : x ∈ rgI a b ↔ a ≤ x ∧ x < b := by
  unfold rgI
  rw [List.mem_map]
  constructor
  · rintro ⟨i, hi, rfl⟩; rw [List.mem_range] at hi; omega
  · rintro ⟨h1, h2⟩; exact ⟨(x - a).toNat, by rw [List.mem_range]; omega, by omega⟩
theorem rgI_lt (a b : Int) : (rgI a b).Pairwise (· < ·) := by
  unfold rgI
  rw [List.pairwise_map]
  exact List.pairwise_lt_range.imp fun h => by omega
theorem rgI_nil {a b : Int} (h : b ≤ a) : rgI a b = [] := by
  unfold rgI; rw [show (b - a).toNat = 0 by omega]; rfl
theorem rgI_snoc {a b : Int} (h : a ≤ b) : rgI a (b + 1) = rgI a b ++ [b] := by
  unfold rgI; rw [show (b + 1 - a).toNat = (b - a).toNat + 1 by omega, List.range_succ, List.map_append]
  congr 1; simp; omega
theorem rgI_cons {a b : Int} (h : a < b) : rgI a b = a :: rgI (a + 1) b := by
  refine sorted_ext (rgI_lt _ _) ?_ fun x => ?_
  · rw [List.pairwise_cons]; exact ⟨fun x hx => by rw [mem_rgI] at hx; omega, rgI_lt _ _⟩
  · rw [List.mem_cons, mem_rgI, mem_rgI]; omega
theorem pix_nat {xs : List α} {i : Nat} {x : α} (h : xs[i]? = some x) : pix xs (i : Int) = some x := by
  have hi := (List.getElem?_eq_some_iff.mp h).1
  unfold pix ixN
  rw [if_pos (by omega), if_pos (by omega)]
  simpa using h
theorem pix_pos {xs : List α} {i : Int} (h0 : 0 ≤ i) (h1 : i < xs.length) : pix xs i = xs[i.toNat]? := by
  unfold pix ixN
  rw [if_pos h0, if_pos h1]; rfl
theorem pix_some {xs : List α} {i : Int} (h0 : 0 ≤ i) (h1 : i < xs.length) : ∃ x, pix xs i = some x ∧ x ∈ xs := by
  rw [pix_pos h0 h1]
  have : i.toNat < xs.length := by omega
  exact ⟨xs[i.toNat], List.getElem?_eq_getElem this, List.getElem_mem _⟩
theorem pix_last {xs : List α} {x : α} (h : xs.getLast? = some x) : pix xs (-1) = some x := by
  have hne : xs ≠ [] := by intro e; rw [e] at h; cases h
  have hl : 0 < xs.length := List.length_pos_iff.mpr hne
  unfold pix ixN
  rw [if_neg (by omega), if_pos (by omega)]
  rw [List.getLast?_eq_getElem?] at h
  rw [show ((-1 : Int) + (xs.length : Int)).toNat = xs.length - 1 by omega]
  exact h
theorem penumF_get : ∀ (xs : List α) (k i : Nat), (penumF k xs)[i]? = (xs[i]?).map fun x => (((k + i : Nat) : Int), x)
  | [], k, i => by unfold penumF; simp
  | x :: xs, k, 0 => by unfold penumF; simp
  | x :: xs, k, i + 1 => by
    unfold penumF
    rw [List.getElem?_cons_succ, penumF_get xs (k + 1) i, List.getElem?_cons_succ]
    rw [show k + 1 + i = k + (i + 1) by omega]
theorem penum_get (xs : List α) (i : Nat) : (penum xs)[i]? = (xs[i]?).map fun x => ((i : Int), x) := by
  unfold penum; rw [penumF_get, Nat.zero_add]
/-- a walk over an enumerated list: what stands at a place -/
theorem penum_split {xs : List α} {pre post : List (Int × α)} {p : Int × α} (h : penum xs = pre ++ p :: post) : ∃ i : Nat, i = pre.length ∧ p.1 = (i : Int) ∧ xs[i]? = some p.2 ∧ pre = penum (xs.take i) := by
  have hg : (penum xs)[pre.length]? = some p := by rw [h]; simp
  rw [penum_get] at hg
  cases hx : xs[pre.length]? with
  | none => rw [hx] at hg; cases hg
  | some x =>
    rw [hx] at hg
    have hp : ((pre.length : Int), x) = p := by simpa using hg
    subst hp
    refine ⟨pre.length, rfl, rfl, hx, ?_⟩
    have hlt := (List.getElem?_eq_some_iff.mp hx).1
    apply List.ext_getElem?
    intro i
    rw [penum_get]
    by_cases hi : i < pre.length
    · have e1 : (penum xs)[i]? = pre[i]? := by rw [h, List.getElem?_append_left hi]
      rw [← e1, penum_get, List.getElem?_take_of_lt hi]
    · rw [List.getElem?_eq_none (by omega), List.getElem?_eq_none (by rw [List.length_take]; omega)]; rfl
end
section
variable {κ ν : Type} [DecidableEq κ]
abbrev keys (kvs : List (κ × ν)) : List κ := kvs.map (·.1)
theorem dhas_iff {kvs : List (κ × ν)} {k : κ} : dhas kvs k = true ↔ k ∈ keys kvs := by
  unfold dhas keys
  rw [List.any_eq_true, List.mem_map]
  constructor
  · rintro ⟨p, h1, h2⟩; exact ⟨p, h1, by simpa using h2⟩
  · rintro ⟨p, h1, h2⟩; exact ⟨p, h1, by simpa using h2⟩
theorem dget_none {kvs : List (κ × ν)} {k : κ} : dget kvs k = none ↔ k ∉ keys kvs := by
  unfold dget keys
  rw [Option.map_eq_none_iff, List.find?_eq_none, List.mem_map]
  constructor
  · rintro h ⟨p, h1, h2⟩; exact h p h1 (by simpa using h2)
  · intro h p h1 h2; exact h ⟨p, h1, by simpa using h2⟩
theorem dget_some {kvs : List (κ × ν)} {k : κ} (h : k ∈ keys kvs) : ∃ v, dget kvs k = some v := by
  cases e : dget kvs k with
  | none => exact absurd h (dget_none.mp e)
  | some v => exact ⟨v, rfl⟩
theorem dput_eq (kvs : List (κ × ν)) (k : κ) (v : ν) : dput kvs k v = if dhas kvs k = true then kvs.map (fun p => if p.1 = k then (p.1, v) else p) else kvs ++ [(k, v)] := rfl
theorem keys_dput (kvs : List (κ × ν)) (k : κ) (v : ν) : keys (dput kvs k v) = if k ∈ keys kvs then keys kvs else keys kvs ++ [k] := by
  rw [dput_eq]; unfold keys
  by_cases h : k ∈ keys kvs
  · rw [if_pos (show dhas kvs k = true from dhas_iff.mpr h), if_pos h, List.map_map]
    apply List.map_congr_left
    intro p _
    by_cases e : p.1 = k
    · simp [e]
    · simp [e]
  · rw [if_neg (show ¬ dhas kvs k = true from fun z => h (dhas_iff.mp z)), if_neg h, List.map_append]; rfl
theorem mem_keys_dput {kvs : List (κ × ν)} {k x : κ} {v : ν} : x ∈ keys (dput kvs k v) ↔ x = k ∨ x ∈ keys kvs := by
  rw [keys_dput]
  split
  · constructor
    · exact .inr
    · rintro (rfl | h)
      · assumption
      · exact h
  · rw [List.mem_append, List.mem_singleton, or_comm]
theorem dput_nodup {kvs : List (κ × ν)} {k : κ} {v : ν} (h : (keys kvs).Nodup) : (keys (dput kvs k v)).Nodup := by
  rw [keys_dput]
  split
  · exact h
  · rename_i hk
    rw [List.nodup_append]
    exact ⟨h, by simp, fun a ha b hb => by rw [List.mem_singleton] at hb; subst hb; exact fun e => hk (e ▸ ha)⟩
theorem mem_keys_foldl (ps : List (κ × ν)) : ∀ (acc : List (κ × ν)) (x : κ), x ∈ keys (ps.foldl (fun acc p => dput acc p.1 p.2) acc) ↔ x ∈ keys acc ∨ x ∈ keys ps := by
  induction ps with
  | nil => intro acc x; simp
  | cons p r ih =>
    intro acc x
    rw [List.foldl_cons, ih, mem_keys_dput]
    show _ ↔ _ ∨ x ∈ p.1 :: keys r
    rw [List.mem_cons]
    constructor
    · rintro ((h | h) | h)
      · exact .inr (.inl h)
      · exact .inl h
      · exact .inr (.inr h)
    · rintro (h | h | h)
      · exact .inl (.inr h)
      · exact .inl (.inl h)
      · exact .inr h
theorem mem_keys_dmk {ps : List (κ × ν)} {x : κ} : x ∈ keys (dmk ps) ↔ x ∈ keys ps := by
  unfold dmk; rw [mem_keys_foldl]; simp
theorem foldl_nodup (ps : List (κ × ν)) : ∀ acc : List (κ × ν), (keys acc).Nodup → (keys (ps.foldl (fun acc p => dput acc p.1 p.2) acc)).Nodup := by
  induction ps with
  | nil => intro acc h; exact h
  | cons p r ih => intro acc h; exact ih _ (dput_nodup h)
theorem dmk_nodup (ps : List (κ × ν)) : (keys (dmk ps)).Nodup := foldl_nodup ps [] List.nodup_nil
end
/-- x can be come to from b by n steps -/
def Wkn (nbr : Int → List Int) (b : Int) : Nat → Int → Prop
  | 0, x => x = b
  | n + 1, x => ∃ y, Wkn nbr b n y ∧ x ∈ nbr y
def Dst (nbr : Int → List Int) (b : Int) (n : Nat) (x : Int) : Prop := Wkn nbr b n x ∧ ∀ m, m < n → ¬ Wkn nbr b m x
section
variable {nbr : Int → List Int} {b : Int}
theorem Dst.uniq {n m : Nat} {x : Int} (h : Dst nbr b n x) (k : Dst nbr b m x) : n = m := by
  rcases Nat.lt_trichotomy n m with z | z | z
  · exact absurd h.1 (k.2 n z)
  · exact z
  · exact absurd k.1 (h.2 m z)
/-- the places found up to level k -/
structure BInv (nbr : Int → List Int) (b : Int) (k : Nat) (found : List (Int × Int)) (level : List Int) : Prop where
  nd : (keys found).Nodup
  has : ∀ x, x ∈ keys found ↔ ∃ n, n ≤ k ∧ Wkn nbr b n x
  val : ∀ x d, dget found x = some d → ∃ n : Nat, d = (n : Int) ∧ Dst nbr b n x
  lv : ∀ x, x ∈ level ↔ Dst nbr b k x
  lnd : level.Nodup
theorem BInv.at {k : Nat} {found : List (Int × Int)} {level : List Int} (h : BInv nbr b k found level) {x : Int} {n : Nat} (hd : Dst nbr b n x) (hn : n ≤ k) : dget found x = some (n : Int) := by
  obtain ⟨v, hv⟩ := dget_some ((h.has x).mpr ⟨n, hn, hd.1⟩)
  obtain ⟨m, h1, h2⟩ := h.val x v hv
  rw [hv, h1, h2.uniq hd]
theorem nodup_len : ∀ {U xs : List Int}, xs.Nodup → (∀ x, x ∈ xs → x ∈ U) → xs.length ≤ U.length
  | U, [], _, _ => Nat.zero_le _
  | U, x :: xs, h, hs => by
    have hx := hs x List.mem_cons_self
    have h1 := List.nodup_cons.mp h
    have := nodup_len (U := U.erase x) h1.2 fun y hy => by
      have hne : y ≠ x := fun e => h1.1 (e ▸ hy)
      exact (List.mem_erase_of_ne hne).mpr (hs y (List.mem_cons_of_mem _ hy))
    rw [List.length_erase_of_mem hx] at this
    have hp := List.length_pos_of_mem hx
    rw [List.length_cons]; omega
end
inductive Rch (R : Int → Int → Prop) : Int → Int → Prop
  | refl (x : Int) : Rch R x x
  | step {x y z : Int} : Rch R x y → R y z → Rch R x z
theorem Rch.trans {R : Int → Int → Prop} {x y z : Int} (h : Rch R x y) (k : Rch R y z) : Rch R x z := by
  induction k with
  | refl => exact h
  | step _ r ih => exact ih.step r
theorem Rch.one {R : Int → Int → Prop} {x y : Int} (h : R x y) : Rch R x y := (Rch.refl x).step h
theorem Rch.symm {R : Int → Int → Prop} (hs : ∀ a b, R a b → R b a) {x y : Int} (h : Rch R x y) : Rch R y x := by
  induction h with
  | refl => exact .refl _
  | step _ r ih => exact (Rch.one (hs _ _ r)).trans ih
/-- two steps on a bench -/
def RA (e a b : Int) (x y : Int) : Prop := 0 ≤ x ∧ x ≤ e ∧ 0 ≤ y ∧ y ≤ e ∧ (y = x + a ∨ y = x - a ∨ y = x + b ∨ y = x - b)
theorem RA.symm {e a b x y : Int} (h : RA e a b x y) : RA e a b y x := by unfold RA at *; omega
section
variable {nbr : Int → List Int} {b : Int}
theorem Wkn.add {n m : Nat} {x y : Int} (h : Wkn nbr b n y) (k : Wkn nbr y m x) : Wkn nbr b (n + m) x := by
  induction m generalizing x with
  | zero => cases (show x = y from k); exact h
  | succ m ih => obtain ⟨z, h1, h2⟩ := k; exact ⟨z, ih h1, h2⟩
theorem Wkn.one {x : Int} (h : x ∈ nbr b) : Wkn nbr b 1 x := ⟨b, rfl, h⟩
theorem Wkn.inv {P : Int → Prop} (hs : ∀ x y, P x → y ∈ nbr x → P y) (hb : P b) : ∀ {n : Nat} {x : Int}, Wkn nbr b n x → P x
  | 0, x, h => by cases (show x = b from h); exact hb
  | n + 1, x, ⟨y, h1, h2⟩ => hs y x (Wkn.inv hs hb h1) h2
theorem Wkn.symm {P : Int → Prop} (hs : ∀ x y, P x → y ∈ nbr x → P y ∧ x ∈ nbr y) (hb : P b) : ∀ {n : Nat} {x : Int}, Wkn nbr b n x → Wkn nbr x n b
  | 0, x, h => by cases (show x = b from h); exact rfl
  | n + 1, x, ⟨y, h1, h2⟩ => by
    have hy : P y := Wkn.inv (fun x y a c => (hs x y a c).1) hb h1
    have := (Wkn.one (hs y x hy h2).2).add (Wkn.symm hs hb h1)
    rw [Nat.add_comm] at this; exact this
theorem Dst.symm {P : Int → Prop} (hs : ∀ x y, P x → y ∈ nbr x → P y ∧ x ∈ nbr y) (hb : P b) {n : Nat} {x : Int} (h : Dst nbr b n x) : Dst nbr x n b := by
  have hx : P x := Wkn.inv (fun x y a c => (hs x y a c).1) hb h.1
  exact ⟨h.1.symm hs hb, fun m hm hw => h.2 m hm (hw.symm hs hx)⟩
/-- a place of each smaller distance -/
theorem Dst.count : ∀ {n : Nat} {x : Int}, Dst nbr b n x → ∃ ys : List Int, ys.length = n + 1 ∧ ys.Nodup ∧ ∀ y, y ∈ ys → ∃ m, m ≤ n ∧ Dst nbr b m y
  | 0, x, h => ⟨[x], rfl, by simp, fun y hy => by rw [List.mem_singleton] at hy; subst hy; exact ⟨0, Nat.le_refl _, h⟩⟩
  | n + 1, x, h => by
    obtain ⟨y, h1, h2⟩ := h.1
    have hy : Dst nbr b n y := ⟨h1, fun m hm hw => h.2 (m + 1) (by omega) ⟨y, hw, h2⟩⟩
    obtain ⟨ys, k1, k2, k3⟩ := hy.count
    refine ⟨x :: ys, by rw [List.length_cons, k1], ?_, fun z hz => ?_⟩
    · rw [List.nodup_cons]
      refine ⟨fun hx => ?_, k2⟩
      obtain ⟨m, hm, hd⟩ := k3 x hx
      have := hd.uniq h
      omega
    · rcases List.mem_cons.mp hz with rfl | hz
      · exact ⟨n + 1, Nat.le_refl _, h⟩
      · obtain ⟨m, hm, hd⟩ := k3 z hz; exact ⟨m, by omega, hd⟩
end
section
variable {α β γ : Type} {en f : α → D} {g : β → D} {n : Nat}
theorem ltC_irrefl (a : α) : ltC en a a = false := (PyProof.Rows.listOrd PyProof.Rows.itemOrd).irrefl _
theorem ltC_trans {a b c : α} (h1 : ltC en a b = true) (h2 : ltC en b c = true) : ltC en a c = true := (PyProof.Rows.listOrd PyProof.Rows.itemOrd).trans _ _ _ h1 h2
theorem ltC_asymm {a b : α} (h : ltC en a b = true) : ltC en b a = false := by
  cases e : ltC en b a with
  | false => rfl
  | true => have := ltC_trans h e; rw [ltC_irrefl] at this; cases this
theorem leC_trans {a b c : α} (h1 : leC en a b = true) (h2 : leC en b c = true) : leC en a c = true := by
  unfold leC at *
  rw [Bool.not_eq_true'] at *
  cases e : ltC en c a with
  | false => rfl
  | true =>
    rcases (PyProof.Rows.listOrd PyProof.Rows.itemOrd).negTrans _ (PySem.W.keyToks (toP (en b))) _ e with z | z
    · have z : ltC en c b = true := z
      rw [h2] at z; cases z
    · have z : ltC en b a = true := z
      rw [h1] at z; cases z
theorem leC_total (a b : α) : (leC en a b || leC en b a) = true := by
  unfold leC
  cases e : ltC en b a with
  | false => rfl
  | true => rw [ltC_asymm e]; rfl
theorem dsort_perm (xs : List α) : (dsort en xs).Perm xs := List.mergeSort_perm _ _
theorem dsort_sorted (xs : List α) : (dsort en xs).Pairwise fun a b => leC en a b = true := List.pairwise_mergeSort (le := leC en) (fun _ _ _ h1 h2 => leC_trans h1 h2) leC_total xs
theorem ltC_int (a b : Int) : ltC eI a b = decide (a < b) := PySem.W.dataLt_int a b
theorem eqv_iff (h : EqC en n) (a b : α) : PyData.eqv (toP (en a)) (toP (en b)) = true ↔ a = b := h.eq a b
theorem lexAll_nil (y : PyData) (ys : List PyData) : PyProof.Rows.lexLt PyProof.Rows.itemOrd (PySem.W.keyToksAll []) (PySem.W.keyToksAll (y :: ys)) = true := by
  unfold PySem.W.keyToksAll
  rw [PySem.W.lex_atom (by intro z; cases z)]; rfl
theorem lexAll_no (xs : List PyData) : PyProof.Rows.lexLt PyProof.Rows.itemOrd (PySem.W.keyToksAll xs) (PySem.W.keyToksAll []) = false := by
  cases xs with
  | nil => exact PyProof.Rows.lex_irrefl _
  | cons x xs =>
    unfold PySem.W.keyToksAll
    rw [PySem.W.lex_atom (by intro z; cases z)]; rfl
theorem ltC_tup_nil (b : α) (bs : List α) : ltC (eT f) [] (b :: bs) = true := by
  show PySem.W.dataLt (.tuple (toPs [])) (.tuple (toPs (f b :: bs.map f))) = true
  rw [PySem.W.dataLt_tuple]; exact lexAll_nil _ _
theorem ltC_tup_no (as : List α) : ltC (eT f) as [] = false := by
  show PySem.W.dataLt (.tuple (toPs (as.map f))) (.tuple (toPs [])) = false
  rw [PySem.W.dataLt_tuple]; exact lexAll_no _
theorem ltC_tup_cons [DecidableEq α] (hf : OrC f n) (a b : α) (as bs : List α) : ltC (eT f) (a :: as) (b :: bs) = if a = b then ltC (eT f) as bs else ltC f a b := by
  show PySem.W.dataLt (.tuple (toP (f a) :: toPs (as.map f))) (.tuple (toP (f b) :: toPs (bs.map f))) = _
  rw [PySem.W.dataLt_tuple, PySem.W.dataLt_cons (hf.al _ _)]
  by_cases e : a = b
  · rw [if_pos ((eqv_iff hf.eqc _ _).mpr e), if_pos e]
    show _ = PySem.W.dataLt (.tuple (toPs (as.map f))) (.tuple (toPs (bs.map f)))
    rw [PySem.W.dataLt_tuple]
  · rw [if_neg (fun z => e ((eqv_iff hf.eqc _ _).mp z)), if_neg e]; rfl
end
open Out (Rt)
open Out (Rt)
def topS (i : Nat) : Stmt := PySem.Challenge.pw_rulerbits_k71_whole_rulers_known_by_thei.main.body.getD i (.Pass ⟨0, 0, 0, 0⟩)
abbrev s_is_number : Stmt := topS 10
theorem sc_is_number : FnScope ["value", "lowest", "highest"] ["value", "lowest", "highest"] (defScope s_is_number) := ⟨rfl, rfl, rfl, by decide +kernel, rfl, by decide +kernel, by decide +kernel⟩
abbrev s_spread_of : Stmt := topS 11
theorem sc_spread_of : FnScope ["marks", "found", "place", "mark", "other"] ["marks"] (defScope s_spread_of) := ⟨rfl, rfl, rfl, by decide +kernel, rfl, by decide +kernel, by decide +kernel⟩
abbrev s_mirrored : Stmt := topS 12
theorem sc_mirrored : FnScope ["marks", "mark"] ["marks"] (defScope s_mirrored) := ⟨rfl, rfl, rfl, by decide +kernel, rfl, by decide +kernel, by decide +kernel⟩
abbrev s_Ruler_init : Stmt := inClass (topS 13) 1
theorem sc_Ruler_init : FnScope ["self", "marks", "error", "index", "mark", "lowest"] ["self", "marks", "error"] (defScope s_Ruler_init) := ⟨rfl, rfl, rfl, by decide +kernel, rfl, by decide +kernel, by decide +kernel⟩
abbrev s_Ruler_marks : Stmt := inClass (topS 13) 2
theorem sc_Ruler_marks : FnScope ["self"] ["self"] (defScope s_Ruler_marks) := ⟨rfl, rfl, rfl, by decide +kernel, rfl, by decide +kernel, by decide +kernel⟩
abbrev s_Ruler_length : Stmt := inClass (topS 13) 4
theorem sc_Ruler_length : FnScope ["self"] ["self"] (defScope s_Ruler_length) := ⟨rfl, rfl, rfl, by decide +kernel, rfl, by decide +kernel, by decide +kernel⟩
abbrev s_Ruler_spread : Stmt := inClass (topS 13) 5
theorem sc_Ruler_spread : FnScope ["self"] ["self"] (defScope s_Ruler_spread) := ⟨rfl, rfl, rfl, by decide +kernel, rfl, by decide +kernel, by decide +kernel⟩
abbrev s_Ruler_spans : Stmt := inClass (topS 13) 6
theorem sc_Ruler_spans : FnScope ["self", "span"] ["self"] (defScope s_Ruler_spans) := ⟨rfl, rfl, rfl, by decide +kernel, rfl, by decide +kernel, by decide +kernel⟩
abbrev s_Ruler_len : Stmt := inClass (topS 13) 7
theorem sc_Ruler_len : FnScope ["self"] ["self"] (defScope s_Ruler_len) := ⟨rfl, rfl, rfl, by decide +kernel, rfl, by decide +kernel, by decide +kernel⟩
abbrev s_Ruler_turned : Stmt := inClass (topS 13) 9
theorem sc_Ruler_turned : FnScope ["self"] ["self"] (defScope s_Ruler_turned) := ⟨rfl, rfl, rfl, by decide +kernel, rfl, by decide +kernel, by decide +kernel⟩
abbrev s_validate_distances : Stmt := topS 16
theorem sc_validate_distances : FnScope ["distances", "index", "distance", "lowest"] ["distances"] (defScope s_validate_distances) := ⟨rfl, rfl, rfl, by decide +kernel, rfl, by decide +kernel, by decide +kernel⟩
abbrev s_less : Stmt := topS 17
theorem sc_less : FnScope ["left", "taken", "found", "value"] ["left", "taken"] (defScope s_less) := ⟨rfl, rfl, rfl, by decide +kernel, rfl, by decide +kernel, by decide +kernel⟩
abbrev s_rulers_of : Stmt := topS 18
theorem sc_rulers_of : FnScope ["distances", "length", "found", "marks"] ["distances"] (defScope s_rulers_of) := ⟨rfl, rfl, rfl, by decide +kernel, rfl, by decide +kernel, by decide +kernel⟩
abbrev s_grown : Stmt := topS 19
theorem sc_grown : FnScope ["marks", "left", "found", "mark", "rest", "other"] ["marks", "left"] (defScope s_grown) := ⟨rfl, rfl, rfl, by decide +kernel, rfl, by decide +kernel, by decide +kernel⟩
abbrev s_spans_with : Stmt := topS 22
theorem sc_spans_with : FnScope ["marks", "more", "span"] ["marks", "more"] (defScope s_spans_with) := ⟨rfl, rfl, rfl, by decide +kernel, rfl, by decide +kernel, by decide +kernel⟩
abbrev s_free_marks : Stmt := topS 23
theorem sc_free_marks : FnScope ["ruler", "mark"] ["ruler"] (defScope s_free_marks) := ⟨rfl, rfl, rfl, by decide +kernel, rfl, by decide +kernel, by decide +kernel⟩
abbrev s_best_mark : Stmt := topS 24
theorem sc_best_mark : FnScope ["ruler", "free", "counts", "mark"] ["ruler"] (defScope s_best_mark) := ⟨rfl, rfl, rfl, by decide +kernel, rfl, by decide +kernel, by decide +kernel⟩
abbrev s_tuples_of : Stmt := topS 25
theorem sc_tuples_of : FnScope ["values", "size", "found", "turn", "longer", "some", "value"] ["values", "size"] (defScope s_tuples_of) := ⟨rfl, rfl, rfl, by decide +kernel, rfl, by decide +kernel, by decide +kernel⟩
abbrev s_fewest_marks : Stmt := topS 26
theorem sc_fewest_marks : FnScope ["ruler", "most", "free", "size", "found"] ["ruler", "most"] (defScope s_fewest_marks) := ⟨rfl, rfl, rfl, by decide +kernel, rfl, by decide +kernel, by decide +kernel⟩
abbrev s_first_enough : Stmt := topS 27
theorem sc_first_enough : FnScope ["ruler", "free", "most", "size", "lacking", "many", "more", "known", "span"] ["ruler", "free", "most", "size"] (defScope s_first_enough) := ⟨rfl, rfl, rfl, by decide +kernel, rfl, by decide +kernel, by decide +kernel⟩
abbrev s_repeated : Stmt := topS 28
theorem sc_repeated : FnScope ["ruler", "span"] ["ruler"] (defScope s_repeated) := ⟨rfl, rfl, rfl, by decide +kernel, rfl, by decide +kernel, by decide +kernel⟩
abbrev s_is_sparse : Stmt := topS 29
theorem sc_is_sparse : FnScope ["ruler"] ["ruler"] (defScope s_is_sparse) := ⟨rfl, rfl, rfl, by decide +kernel, rfl, by decide +kernel, by decide +kernel⟩
abbrev s_law_begun : Stmt := topS 31
theorem sc_law_begun : FnScope ["_law_script", "_law_stirred", "_law_cell"] ["_law_script"] (defScope s_law_begun) := ⟨rfl, rfl, rfl, by decide +kernel, rfl, by decide +kernel, by decide +kernel⟩
abbrev s_law_take : Stmt := topS 32
theorem sc_law_take : FnScope ["_law_box", "_law_many", "_law_figure"] ["_law_box", "_law_many"] (defScope s_law_take) := ⟨rfl, rfl, rfl, by decide +kernel, rfl, by decide +kernel, by decide +kernel⟩
abbrev s_law_spans : Stmt := topS 33
theorem sc_law_spans : FnScope ["_law_marks", "_law_found", "_law_place", "_law_mark"] ["_law_marks"] (defScope s_law_spans) := ⟨rfl, rfl, rfl, by decide +kernel, rfl, by decide +kernel, by decide +kernel⟩
abbrev s_law_turned : Stmt := topS 34
theorem sc_law_turned : FnScope ["_law_marks", "_law_mark"] ["_law_marks"] (defScope s_law_turned) := ⟨rfl, rfl, rfl, by decide +kernel, rfl, by decide +kernel, by decide +kernel⟩
abbrev s_law_long : Stmt := topS 35
theorem sc_law_long : FnScope ["_law_marks", "_law_times", "_law_mark"] ["_law_marks", "_law_times"] (defScope s_law_long) := ⟨rfl, rfl, rfl, by decide +kernel, rfl, by decide +kernel, by decide +kernel⟩
abbrev s_law : Stmt := topS 36
theorem sc_law : FnScope ["_law_script", "_law_box", "_law_times", "_law_sparse", "_law_marks", "_law_ruler", "_law_found", "_law_one", "_law_other", "_law_due", "_law_length", "_law_most", "_law_added", "_law_even", "_law_some"] ["_law_script"] (defScope s_law) := ⟨rfl, rfl, rfl, by decide +kernel, rfl, by decide +kernel, by decide +kernel⟩
def m_law_take (m : Int) (bx : Bx) : Out (Int × Bx) :=
  (Out.guard (0 < m ∧ m < 2 ^ 400)).bind fun _ => match bx.1 with
    | [] => .ok ((bx.2 * 48271 % 2147483647 / 7) % m, ([], bx.2 * 48271 % 2147483647))
    | n :: rs => .ok (n % m, (if n / m = 0 ∨ n / m = -1 then rs else n / m :: rs, bx.2))
def stirB (ns : List Int) : Int := ns.foldl (fun s n => (s * 48271 + n * 69621 + 11) % 2147483647) 0
def m_law_begun (ns : List Int) : Bx := (ns, stirB ns * (if decide (2 < ((ns.length : Nat) : Int)) = true then 1 else 0))
def m_is_number (value1 : Int) (lowest2 : Int) (highest3 : Int) : Bool := (true && ((!false) && ((decide (lowest2 ≤ value1)) && (decide (value1 ≤ highest3)))))
def mk_Ruler (marks1 : List Int) (error2 : Int) : Out (Rul) :=
(Out.fold (σ := Unit) (fun s3 (x5 : (Int × Int)) =>
(if (decide (x5.1 = (0 : Int))) = true then (Out.ok (0 : Int)) else ((Out.get (pix marks1 (x5.1 - (1 : Int)))).bind fun x8 =>
Out.ok (x8 + (1 : Int)))).bind fun i7 =>
if ((decide (x5.1 = (12 : Int))) || (!(m_is_number x5.2 i7 (if (decide (x5.1 = (0 : Int))) = true then (0 : Int) else (300 : Int))))) = true then (
Out.no)
else (
Out.ok ())) (penum marks1) ()).bind fun s4 =>
if (decide (((marks1).length : Int) < (2 : Int))) = true then (
Out.no)
else (
if (!(m_is_number error2 (0 : Int) (9 : Int))) = true then (
Out.no)
else (
Out.ok ⟨error2, marks1⟩))
def m_Ruler_marks (self1 : Rul) : List Int := self1.marks
def m_Ruler_length (self1 : Rul) : Out (Int) :=
(Out.get (pix self1.marks (-(1 : Int)))).bind fun x2 =>
Out.ok x2
def m_Ruler___len (self1 : Rul) : Int := ((self1.marks).length : Int)
def m_spread_of (marks1 : List Int) : Out (List Int) :=
(Out.ok ([] : List Int)).bind fun found2 =>
(Out.fold (σ := List Int) (fun s3 (x5 : (Int × Int)) =>
(Out.guard ((s3).length + ((pcut marks1 (some (x5.1 + (1 : Int))) none).map (fun (x8 : Int) => x8 - x5.2)).length ≤ LIM)).bind fun _ =>
(Out.ok (s3 ++ ((pcut marks1 (some (x5.1 + (1 : Int))) none).map (fun (x8 : Int) => x8 - x5.2)))).bind fun found11 =>
Out.ok found11) (penum marks1) found2).bind fun s4 =>
Out.ok (isort s4)
def m_spread_of_l (marks1 : List Int) : Out (List Int) :=
(Out.ok ([] : List Int)).bind fun found2 =>
(Out.fold (σ := List Int) (fun s3 (x5 : (Int × Int)) =>
(Out.guard ((s3).length + ((pcut marks1 (some (x5.1 + (1 : Int))) none).map (fun (x8 : Int) => x8 - x5.2)).length ≤ LIM)).bind fun _ =>
(Out.ok (s3 ++ ((pcut marks1 (some (x5.1 + (1 : Int))) none).map (fun (x8 : Int) => x8 - x5.2)))).bind fun found11 =>
Out.ok found11) (penum marks1) found2).bind fun s4 =>
Out.ok (isort s4)
def m_mirrored (marks1 : List Int) : Out (List Int) :=
(Out.compS (fun (s4 : Unit) (x2 : Int) =>
(Out.get (pix marks1 (-(1 : Int)))).bind fun x6 =>
Out.ok (some (x6 - x2), ())) ((marks1).reverse) [] ()).bind fun l5 =>
Out.ok l5.1
def m_Ruler_spread (self1 : Rul) : Out (List Int) :=
(m_spread_of self1.marks).bind fun r2 =>
Out.ok r2
def m_Ruler_spans (self1 : Rul) : Out (List Int) :=
(m_spread_of self1.marks).bind fun r3 =>
Out.ok (isort ((dmk (r3.map (fun (x2 : Int) => (x2, true)))).map (·.1)))
def m_Ruler_turned (self1 : Rul) : Out (Rul) :=
(m_mirrored self1.marks).bind fun r2 =>
(mk_Ruler r2 self1.error).bind fun r3 =>
Out.ok r3
def m_tuples_of (values1 : List Int) (size2 : Int) : Out (List (List Int)) :=
(Out.ok ([[]] : List (List Int))).bind fun found3 =>
(Out.guard (RG size2)).bind fun _ =>
(Out.fold (σ := List (List Int)) (fun s4 (x6 : Int) =>
(Out.ok ([] : List (List Int))).bind fun longer8 =>
(Out.fold (σ := List (List Int)) (fun s9 (x11 : List Int) =>
(Out.compS (fun (s16 : Unit) (x14 : Int) =>
(if (decide (x11 = ([] : List Int))) = true then Out.ok true else ((Out.get (pix x11 (-(1 : Int)))).bind fun x19 =>
Out.ok (decide (x19 < x14)))).bind fun c18 =>
if c18 = true then ((Out.guard ((x11).length + ([x14]).length ≤ LIM)).bind fun _ =>
Out.ok (some (x11 ++ [x14]), ())) else Out.ok (none, ())) values1 [] ()).bind fun l17 =>
(Out.guard ((s9).length + (l17.1).length ≤ LIM)).bind fun _ =>
(Out.ok (s9 ++ l17.1)).bind fun longer22 =>
Out.ok longer22) s4 longer8).bind fun s10 =>
Out.ok s10) (rgI 0 size2) found3).bind fun s5 =>
Out.ok s5
def m_spans_with (marks1 : List Int) (more2 : List Int) : Out (List (Int × Bool)) :=
(Out.guard ((marks1 ++ more2).length ≤ LIM)).bind fun _ =>
(m_spread_of_l (isort (marks1 ++ more2))).bind fun r5 =>
Out.ok (dmk (r5.map (fun (x3 : Int) => (x3, true))))
def m_spans_with_t (marks1 : List Int) (more2 : List Int) : Out (List (Int × Bool)) :=
(Out.guard ((marks1 ++ more2).length ≤ LIM)).bind fun _ =>
(m_spread_of_l (isort (marks1 ++ more2))).bind fun r5 =>
Out.ok (dmk (r5.map (fun (x3 : Int) => (x3, true))))
def m_free_marks (ruler1 : Rul) : Out (List Int) :=
((m_Ruler_length ruler1).nox).bind fun r3 =>
(Out.guard (RG r3)).bind fun _ =>
(Out.guard ((rgI (1 : Int) r3).length ≤ LIM)).bind fun _ =>
Out.ok (((rgI (1 : Int) r3).filter (fun (x2 : Int) => !decide (x2 ∈ (m_Ruler_marks ruler1)))).map (fun (x2 : Int) => x2))
def m_best_mark (ruler1 : Rul) : Out (Option (Int)) :=
(m_free_marks ruler1).bind fun r2 =>
if (decide (r2 = ([] : List Int))) = true then (
Out.ok none)
else (
(Out.compS (fun (s5 : Unit) (x3 : Int) =>
((m_spans_with (m_Ruler_marks ruler1) [x3]).nox).bind fun r8 =>
Out.ok (some ((r8).length : Int), ())) r2 [] ()).bind fun l6 =>
(Out.get (maxI l6.1)).bind fun x9 =>
(Out.get (idxI x9 l6.1)).bind fun x10 =>
(Out.get (pix r2 (x10 : Int))).bind fun x11 =>
Out.ok (some x11))
def m_first_enough (ruler1 : Rul) (free2 : List Int) (most3 : Int) (size4 : Int) : Out (Option (List Int)) :=
(Out.guard (RG (most3 + (1 : Int)))).bind fun _ =>
(Out.guard ((rgI (1 : Int) (most3 + (1 : Int))).length ≤ LIM)).bind fun _ =>
(Out.compS (fun (s8 : Unit) (x5 : Int) =>
((m_Ruler_spans ruler1).nox).bind fun r10 =>
if (!decide (x5 ∈ r10)) = true then (Out.ok (some x5, ())) else Out.ok (none, ())) (rgI (1 : Int) (most3 + (1 : Int))) [] ()).bind fun l9 =>
(Out.guard (0 ≤ m_Ruler___len ruler1 ∧ m_Ruler___len ruler1 < 2 ^ 63)).bind fun _ =>
(Out.ok ((m_Ruler___len ruler1) + size4)).bind fun many12 =>
((m_Ruler_length ruler1).nox).bind fun r14 =>
(if (decide (r14 < most3)) = true then Out.ok true else ((Out.guard ((-(2 ^ 64) < many12 ∧ many12 < 2 ^ 64) ∨ (-(2 ^ 64) < (many12 - (1 : Int)) ∧ (many12 - (1 : Int)) < 2 ^ 64))).bind fun _ =>
(Out.guard (0 ≤ m_Ruler___len ruler1 ∧ m_Ruler___len ruler1 < 2 ^ 63)).bind fun _ =>
(Out.guard (0 ≤ m_Ruler___len ruler1 ∧ m_Ruler___len ruler1 < 2 ^ 63)).bind fun _ =>
(Out.guard ((-(2 ^ 64) < (m_Ruler___len ruler1) ∧ (m_Ruler___len ruler1) < 2 ^ 64) ∨ (-(2 ^ 64) < ((m_Ruler___len ruler1) - (1 : Int)) ∧ ((m_Ruler___len ruler1) - (1 : Int)) < 2 ^ 64))).bind fun _ =>
Out.ok (decide ((((many12 * (many12 - (1 : Int))) / (2 : Int)) - (((m_Ruler___len ruler1) * ((m_Ruler___len ruler1) - (1 : Int))) / (2 : Int))) < ((l9.1).length : Int))))).bind fun c13 =>
if c13 = true then (
Out.ok none)
else (
(m_tuples_of free2 size4).bind fun r22 =>
(Out.loop (σ := Unit) (ρ := Option (List Int)) (fun s19 (x21 : List Int) =>
(m_spans_with_t (m_Ruler_marks ruler1) x21).bind fun r25 =>
if (decide (((l9.1.filter (fun (x26 : Int) => !dhas r25 x26)).map (fun (x26 : Int) => x26)) = ([] : List Int))) = true then (
Out.ok (.rt (some x21)))
else (
Out.ok (.nx ()))) r22 ()).bind fun t => match t with
| .nx s20 => (
Out.ok none)
| .rt v => Out.ok v)
def m_fewest_marks (ruler1 : Rul) (most2 : Int) : Out (Option (List Int)) :=
if (!(m_is_number most2 (1 : Int) (300 : Int))) = true then (
Out.no)
else (
(m_free_marks ruler1).bind fun r4 =>
(Out.loop (σ := Unit) (ρ := Option (List Int)) (fun s5 (x7 : Int) =>
(m_first_enough ruler1 r4 most2 x7).bind fun r8 =>
if (!(r8).isNone) = true then (
Out.ok (.rt r8))
else (
Out.ok (.nx ()))) (rgI 0 ((3 : Int) + (1 : Int))) ()).bind fun t => match t with
| .nx s6 => (
Out.ok none)
| .rt v => Out.ok v)
def m_repeated (ruler1 : Rul) : Out (List Int) :=
((m_Ruler_spans ruler1).nox).bind fun r3 =>
(Out.compS (fun (s5 : Unit) (x2 : Int) =>
((m_Ruler_spread ruler1).nox).bind fun r7 =>
if (decide ((1 : Int) < ((r7).count x2 : Int))) = true then (Out.ok (some x2, ())) else Out.ok (none, ())) r3 [] ()).bind fun l6 =>
Out.ok l6.1
def m_is_sparse (ruler1 : Rul) : Out (Bool) :=
(m_repeated ruler1).bind fun r2 =>
Out.ok (decide (r2 = ([] : List Int)))
def m_validate_distances (distances1 : List Int) : Out (Unit) :=
(Out.fold (σ := Unit) (fun s2 (x4 : (Int × Int)) =>
(if (decide (x4.1 = (0 : Int))) = true then (Out.ok (1 : Int)) else ((Out.get (pix distances1 (x4.1 - (1 : Int)))).bind fun x7 =>
Out.ok x7)).bind fun i6 =>
(Out.get (pix ([1, 3, 6, 10, 15, 21] : List Int) (-(1 : Int)))).bind fun x8 =>
if ((decide (x4.1 = x8)) || (!(m_is_number x4.2 i6 (300 : Int)))) = true then (
Out.no)
else (
Out.ok ())) (penum distances1) ()).bind fun s3 =>
if (!decide (((distances1).length : Int) ∈ ([1, 3, 6, 10, 15, 21] : List Int))) = true then (
Out.no)
else (
Out.ok ())
def m_less (left1 : List Int) (taken2 : List Int) : Out (Option (List Int)) :=
(Out.loop (σ := List Int) (ρ := Option (List Int)) (fun s3 (x5 : Int) =>
if (!decide (x5 ∈ s3)) = true then (
Out.ok (.rt none))
else (
(Out.get (idxI x5 s3)).bind fun x8 =>
(Out.ok (s3.eraseIdx x8)).bind fun found9 =>
Out.ok (.nx found9))) taken2 left1).bind fun t => match t with
| .nx s4 => (
Out.ok (some s4))
| .rt v => Out.ok v
def m_grown : Nat → (List Int) → (List Int) → Out (List (List Int))
| 0, _, _ => Out.no
| n + 1, marks1, left2 =>
if (decide (left2 = ([] : List Int))) = true then (
Out.ok [marks1])
else (
(Out.ok ([] : List (List Int))).bind fun found3 =>
(Out.get (pix left2 (-(1 : Int)))).bind fun x7 =>
(Out.get (pix marks1 (-(1 : Int)))).bind fun x8 =>
(Out.get (pix left2 (-(1 : Int)))).bind fun x9 =>
(Out.fold (σ := List (List Int)) (fun s4 (x6 : Int) =>
(if ((!decide (x6 ∈ marks1)) && (decide ((0 : Int) < x6))) = true then (
(m_less left2 (marks1.map (fun (x12 : Int) => if (x6 - x12) < 0 then -(x6 - x12) else (x6 - x12)))).bind fun r14 =>
(if (!(r14).isNone) = true then (
(Out.guard ((marks1 ++ [x6]).length ≤ LIM)).bind fun _ =>
(Out.get (r14)).bind fun y18 =>
(m_grown n (isort (marks1 ++ [x6])) y18).bind fun r19 =>
(Out.guard ((s4).length + (r19).length ≤ LIM)).bind fun _ =>
(Out.ok (s4 ++ r19)).bind fun found21 =>
Out.ok found21)
else (
Out.ok s4) : Out (List (List Int))).bind fun s15 =>
Out.ok s15)
else (
Out.ok s4) : Out (List (List Int))).bind fun s11 =>
Out.ok s11) (isort ((dmk [(x7, true), (x8 - x9, true)]).map (·.1))) found3).bind fun s5 =>
Out.ok s5)
def m_rulers_of (distances1 : List Int) : Out (List (List Int)) :=
(m_validate_distances distances1).bind fun r2 =>
(Out.get (pix distances1 (-(1 : Int)))).bind fun x3 =>
(m_grown 8 [(0 : Int), x3] (pcut distances1 none (some (-(1 : Int))))).bind fun r5 =>
(Out.ok (dmk (r5.map (fun (x4 : List Int) => (x4, true))))).bind fun found7 =>
(Out.guard ((found7).length ≤ LIM2 ∧ ((found7.map (·.1)).map thash).Nodup)).bind fun _ =>
(Out.compS (fun (s11 : Unit) (x9 : List Int) =>
((m_mirrored x9).nox).bind fun r13 =>
Out.ok (some (r13, true), ())) (found7.map (·.1)) [] ()).bind fun l12 =>
(Out.guard ((dmk l12.1).length ≤ LIM2 ∧ ((found7).length = 0 → (dmk l12.1).length = 0))).bind fun _ =>
(Out.guard ((((dmk l12.1).foldl (fun a p => dput a p.1 p.2) (dmk found7)).map (·.1)).all (fun x => !x.isEmpty) = true)).bind fun _ =>
Out.ok (dsort (eT eI) (((dmk l12.1).foldl (fun a p => dput a p.1 p.2) (dmk found7)).map (·.1)))
def m_law_spans (marks1 : List Int) : Out (List Int) :=
(Out.ok ([] : List Int)).bind fun found2 =>
(Out.guard (RG ((marks1).length : Int))).bind fun _ =>
(Out.fold (σ := List Int) (fun s3 (x5 : Int) =>
(Out.compS (fun (s10 : Unit) (x8 : Int) =>
(Out.get (pix marks1 x5)).bind fun x12 =>
Out.ok (some (x8 - x12), ())) (pcut marks1 (some (x5 + (1 : Int))) none) [] ()).bind fun l11 =>
(Out.guard ((s3).length + (l11.1).length ≤ LIM)).bind fun _ =>
(Out.ok (s3 ++ l11.1)).bind fun found14 =>
Out.ok found14) (rgI 0 ((marks1).length : Int)) found2).bind fun s4 =>
Out.ok (isort s4)
def m_law_turned (marks1 : List Int) : Out (List Int) :=
(Out.compS (fun (s4 : Unit) (x2 : Int) =>
(Out.get (pix marks1 (-(1 : Int)))).bind fun x6 =>
Out.ok (some (x6 - x2), ())) ((marks1).reverse) [] ()).bind fun l5 =>
Out.ok l5.1
def m_law_long (marks1 : List Int) (times2 : Int) : Out (List Int) :=
(Out.compS (fun (s5 : Unit) (x3 : Int) =>
(Out.guard ((-(2 ^ 64) < times2 ∧ times2 < 2 ^ 64) ∨ (-(2 ^ 64) < x3 ∧ x3 < 2 ^ 64))).bind fun _ =>
Out.ok (some (times2 * x3), ())) marks1 [] ()).bind fun l6 =>
Out.ok l6.1
def m_law (script1 : List Int) : Out (Bool) :=
(m_law_take (8 : Int) (m_law_begun script1)).bind fun r2 =>
(Out.ok ((1 : Int) + r2.1)).bind fun times3 =>
(Out.ok [[((0 : Int), (1 : Int), (4 : Int), (6 : Int)).1, ((0 : Int), (1 : Int), (4 : Int), (6 : Int)).2.1, ((0 : Int), (1 : Int), (4 : Int), (6 : Int)).2.2.1, ((0 : Int), (1 : Int), (4 : Int), (6 : Int)).2.2.2], [((0 : Int), (1 : Int), (4 : Int), (9 : Int), (11 : Int)).1, ((0 : Int), (1 : Int), (4 : Int), (9 : Int), (11 : Int)).2.1, ((0 : Int), (1 : Int), (4 : Int), (9 : Int), (11 : Int)).2.2.1, ((0 : Int), (1 : Int), (4 : Int), (9 : Int), (11 : Int)).2.2.2.1, ((0 : Int), (1 : Int), (4 : Int), (9 : Int), (11 : Int)).2.2.2.2], [((0 : Int), (2 : Int), (7 : Int), (8 : Int), (11 : Int)).1, ((0 : Int), (2 : Int), (7 : Int), (8 : Int), (11 : Int)).2.1, ((0 : Int), (2 : Int), (7 : Int), (8 : Int), (11 : Int)).2.2.1, ((0 : Int), (2 : Int), (7 : Int), (8 : Int), (11 : Int)).2.2.2.1, ((0 : Int), (2 : Int), (7 : Int), (8 : Int), (11 : Int)).2.2.2.2], [((0 : Int), (1 : Int), (4 : Int), (10 : Int), (12 : Int), (17 : Int)).1, ((0 : Int), (1 : Int), (4 : Int), (10 : Int), (12 : Int), (17 : Int)).2.1, ((0 : Int), (1 : Int), (4 : Int), (10 : Int), (12 : Int), (17 : Int)).2.2.1, ((0 : Int), (1 : Int), (4 : Int), (10 : Int), (12 : Int), (17 : Int)).2.2.2.1, ((0 : Int), (1 : Int), (4 : Int), (10 : Int), (12 : Int), (17 : Int)).2.2.2.2.1, ((0 : Int), (1 : Int), (4 : Int), (10 : Int), (12 : Int), (17 : Int)).2.2.2.2.2], [((0 : Int), (1 : Int), (4 : Int), (10 : Int), (18 : Int), (23 : Int), (25 : Int)).1, ((0 : Int), (1 : Int), (4 : Int), (10 : Int), (18 : Int), (23 : Int), (25 : Int)).2.1, ((0 : Int), (1 : Int), (4 : Int), (10 : Int), (18 : Int), (23 : Int), (25 : Int)).2.2.1, ((0 : Int), (1 : Int), (4 : Int), (10 : Int), (18 : Int), (23 : Int), (25 : Int)).2.2.2.1, ((0 : Int), (1 : Int), (4 : Int), (10 : Int), (18 : Int), (23 : Int), (25 : Int)).2.2.2.2.1, ((0 : Int), (1 : Int), (4 : Int), (10 : Int), (18 : Int), (23 : Int), (25 : Int)).2.2.2.2.2.1, ((0 : Int), (1 : Int), (4 : Int), (10 : Int), (18 : Int), (23 : Int), (25 : Int)).2.2.2.2.2.2]]).bind fun sparse4 =>
(m_law_take (5 : Int) r2.2).bind fun r5 =>
(Out.get (pix sparse4 r5.1)).bind fun x6 =>
(m_law_long x6 times3).bind fun r7 =>
(mk_Ruler r7 (0 : Int)).bind fun r8 =>
(m_is_sparse r8).bind fun r10 =>
(if (!r10) = true then Out.ok true else ((m_repeated r8).bind fun r12 =>
(if (!decide (r12 = ([] : List Int))) = true then Out.ok true else ((m_Ruler_turned r8).bind fun r13 =>
(m_is_sparse r13).bind fun r14 =>
Out.ok (!r14))).bind fun c11 =>
Out.ok c11)).bind fun c9 =>
if c9 = true then (
Out.ok false)
else (
((m_Ruler_spread r8).nox).bind fun r15 =>
(m_rulers_of r15).bind fun r16 =>
(m_law_long x6 times3).bind fun r18 =>
(if (!memB r18 r16) = true then Out.ok true else ((m_law_long x6 times3).bind fun r19 =>
(m_law_turned r19).bind fun r20 =>
Out.ok (!memB r20 r16))).bind fun c17 =>
if c17 = true then (
Out.ok false)
else (
(Out.ok [((0 : Int), (1 : Int), (4 : Int), (10 : Int), (12 : Int), (17 : Int)).1, ((0 : Int), (1 : Int), (4 : Int), (10 : Int), (12 : Int), (17 : Int)).2.1, ((0 : Int), (1 : Int), (4 : Int), (10 : Int), (12 : Int), (17 : Int)).2.2.1, ((0 : Int), (1 : Int), (4 : Int), (10 : Int), (12 : Int), (17 : Int)).2.2.2.1, ((0 : Int), (1 : Int), (4 : Int), (10 : Int), (12 : Int), (17 : Int)).2.2.2.2.1, ((0 : Int), (1 : Int), (4 : Int), (10 : Int), (12 : Int), (17 : Int)).2.2.2.2.2]).bind fun one21 =>
(Out.ok [((0 : Int), (1 : Int), (8 : Int), (11 : Int), (13 : Int), (17 : Int)).1, ((0 : Int), (1 : Int), (8 : Int), (11 : Int), (13 : Int), (17 : Int)).2.1, ((0 : Int), (1 : Int), (8 : Int), (11 : Int), (13 : Int), (17 : Int)).2.2.1, ((0 : Int), (1 : Int), (8 : Int), (11 : Int), (13 : Int), (17 : Int)).2.2.2.1, ((0 : Int), (1 : Int), (8 : Int), (11 : Int), (13 : Int), (17 : Int)).2.2.2.2.1, ((0 : Int), (1 : Int), (8 : Int), (11 : Int), (13 : Int), (17 : Int)).2.2.2.2.2]).bind fun other22 =>
(m_law_turned one21).bind fun r24 =>
(m_law_turned other22).bind fun r25 =>
(Out.compS (fun (s27 : Unit) (x23 : List Int) =>
((m_law_long x23 times3).nox).bind fun r29 =>
Out.ok (some r29, ())) [one21, other22, r24, r25] [] ()).bind fun l28 =>
(Out.guard ((l28.1).length ≤ 1 ∨ (l28.1).all (fun x => !x.isEmpty) = true)).bind fun _ =>
(Out.ok (dsort (eT eI) l28.1)).bind fun due31 =>
(m_law_long one21 times3).bind fun r32 =>
(mk_Ruler r32 (0 : Int)).bind fun r33 =>
((m_Ruler_spread r33).nox).bind fun r34 =>
(m_rulers_of r34).bind fun r35 =>
if (!decide (r35 = due31)) = true then (
Out.ok false)
else (
(m_law_long other22 times3).bind fun r36 =>
(mk_Ruler r36 (0 : Int)).bind fun r37 =>
((m_Ruler_spread r37).nox).bind fun r38 =>
(m_rulers_of r38).bind fun r39 =>
if (!decide (r39 = due31)) = true then (
Out.ok false)
else (
(m_law_long [(0 : Int), (1 : Int), (4 : Int), (6 : Int)] times3).bind fun r40 =>
(m_law_long [(0 : Int), (2 : Int), (5 : Int), (6 : Int)] times3).bind fun r41 =>
(Out.ok [r40, r41]).bind fun due42 =>
(m_law_long [(0 : Int), (1 : Int), (4 : Int), (6 : Int)] times3).bind fun r43 =>
(m_law_spans r43).bind fun r44 =>
(m_rulers_of r44).bind fun r45 =>
if (!decide (r45 = due42)) = true then (
Out.ok false)
else (
(Out.loop (σ := Unit) (ρ := (Bool × Bx)) (fun s46 (x48 : (Int × Int × Option (List Int))) =>
(mk_Ruler [(0 : Int), x48.1] (0 : Int)).bind fun r50 =>
(m_fewest_marks r50 x48.2.1).bind fun r51 =>
if (!decide (r51 = x48.2.2)) = true then (
Out.ok (.rt (false, r5.2)))
else (
Out.ok (.nx ()))) ([((6 : Int), (6 : Int), some [(1 : Int), (4 : Int)]), ((3 : Int), (3 : Int), some [(1 : Int)]), ((9 : Int), (9 : Int), some [(1 : Int), (2 : Int), (6 : Int)]), ((1 : Int), (1 : Int), some ([] : List Int)), ((13 : Int), (13 : Int), none)] : List ((Int × Int × Option (List Int)))) ()).bind fun t => match t with
| .nx s47 => (
(m_law_take (8 : Int) r5.2).bind fun r52 =>
(Out.guard (RgOk 0 ((5 : Int) + r52.1))).bind fun _ =>
(m_law_long (rgI 0 ((5 : Int) + r52.1)) times3).bind fun r54 =>
(mk_Ruler r54 (0 : Int)).bind fun r55 =>
((m_Ruler_spans r55).nox).bind fun r57 =>
(Out.guard (0 ≤ m_Ruler___len r55 ∧ m_Ruler___len r55 < 2 ^ 63)).bind fun _ =>
(if (!decide (((r57).length : Int) = (m_Ruler___len r55) - (1 : Int))) = true then Out.ok true else ((m_is_sparse r55).bind fun r60 =>
(if r60 = true then Out.ok true else ((m_repeated r55).bind fun r61 =>
((m_Ruler_spans r55).nox).bind fun r62 =>
Out.ok (!decide (r61 = (pcut r62 none (some (-(1 : Int)))))))).bind fun c59 =>
Out.ok c59)).bind fun c56 =>
if c56 = true then (
Out.ok false)
else (
(m_best_mark r55).bind fun r63 =>
Out.ok (decide (((r63).isNone) = (decide (times3 = (1 : Int)))))))
| .rt v => Out.ok v.1)))))
theorem take_yes {m : Int} (h0 : 0 < m) (h1 : m < 1073741824) (bx : Bx) : (m_law_take m bx).yes fun r => 0 ≤ r.1 ∧ r.1 < m := by
  unfold m_law_take
  refine Out.yes_guard ⟨h0, Int.lt_of_lt_of_le h1 (by decide)⟩ ?_
  split
  · exact Out.yes_ok ⟨Int.emod_nonneg _ (by omega), Int.emod_lt_of_pos _ h0⟩
  · exact Out.yes_ok ⟨Int.emod_nonneg _ (by omega), Int.emod_lt_of_pos _ h0⟩
structure RulOk (r : Rul) : Prop where
  lt : r.marks.Pairwise (· < ·)
  hd : r.marks[0]? = some 0
  lo : 2 ≤ r.marks.length
  hi : r.marks.length ≤ 12
  le : ∀ m, m ∈ r.marks → m ≤ 300
  e0 : 0 ≤ r.error
  e9 : r.error ≤ 9
theorem isnum_iff {v a b : Int} : m_is_number v a b = true ↔ a ≤ v ∧ v ≤ b := by unfold m_is_number; simp
theorem isnum_t {v a b : Int} (h1 : a ≤ v) (h2 : v ≤ b) : m_is_number v a b = true := isnum_iff.mpr ⟨h1, h2⟩
theorem pairwise_get {xs : List Int} (h : xs.Pairwise (· < ·)) {i j : Nat} {x y : Int} (hx : xs[i]? = some x) (hy : xs[j]? = some y) (hij : i < j) : x < y := by
  obtain ⟨h1, rfl⟩ := List.getElem?_eq_some_iff.mp hx
  obtain ⟨h2, rfl⟩ := List.getElem?_eq_some_iff.mp hy
  exact List.pairwise_iff_getElem.mp h i j h1 h2 hij
theorem mk_Ruler_ok {ms : List Int} {e : Int} (h : RulOk ⟨e, ms⟩) : mk_Ruler ms e = .ok ⟨e, ms⟩ := by
  apply Out.yes.eq
  unfold mk_Ruler
  have hlo := h.lo
  have hhi := h.hi
  have he0 := h.e0
  have he9 := h.e9
  dsimp only at hlo hhi he0 he9
  refine Out.yes_bind (R := fun _ => True) (Out.fold_yes (fun _ _ => True) _ _ trivial fun pre x post s hp _ => ?_) fun _ _ => ?_
  · obtain ⟨i, hi, h1, h2, _⟩ := penum_split hp
    have hlt := (List.getElem?_eq_some_iff.mp h2).1
    rcases Nat.eq_zero_or_pos i with z | z
    · subst z
      have hx0 : x.2 = 0 := by have := h.hd; dsimp only at this; rw [h2] at this; exact Option.some.inj this
      rw [if_pos (by rw [h1]; simp), Out.bind_ok]
      refine Out.yes_ifF ?_ (Out.yes_ok trivial)
      rw [h1, hx0]; rfl
    · rw [if_neg (by rw [h1]; simp; omega)]
      have hprev : ms[i - 1]? = some (ms[i - 1]'(by omega)) := List.getElem?_eq_getElem (by omega)
      rw [Out.bind_get (a := ms[i - 1]'(by omega)) (by rw [h1, show ((i : Nat) : Int) - 1 = ((i - 1 : Nat) : Int) by omega]; exact pix_nat hprev), Out.bind_ok]
      refine Out.yes_ifF ?_ (Out.yes_ok trivial)
      have hl := pairwise_get h.lt hprev h2 (by omega)
      have h3 := h.le x.2 (List.mem_of_getElem? h2)
      rw [if_neg (by rw [h1]; simp; omega), isnum_t (by omega) h3]
      simp; omega
  · refine Out.yes_ifF (by simp; omega) (Out.yes_ifF ?_ (Out.yes_ok rfl))
    rw [isnum_t he0 he9]; rfl
/-- all distances of two marks -/
def spreadL : List Int → List Int
  | [] => []
  | m :: ms => ms.map (fun x => x - m) ++ spreadL ms
theorem spreadL_len : ∀ ms : List Int, (spreadL ms).length ≤ ms.length * ms.length
  | [] => by simp [spreadL]
  | m :: ms => by
    have := spreadL_len ms
    unfold spreadL
    rw [List.length_append, List.length_map, List.length_cons]
    have e : (ms.length + 1) * (ms.length + 1) = ms.length * ms.length + 2 * ms.length + 1 := by
      rw [Nat.add_mul, Nat.mul_add]; omega
    omega
theorem mem_spreadL {ms : List Int} {d : Int} : d ∈ spreadL ms ↔ ∃ (i j : Nat) (x y : Int), i < j ∧ ms[i]? = some x ∧ ms[j]? = some y ∧ d = y - x := by
  induction ms with
  | nil => unfold spreadL; simp
  | cons m ms ih =>
    unfold spreadL
    rw [List.mem_append, List.mem_map, ih]
    constructor
    · rintro (⟨y, hy, rfl⟩ | ⟨i, j, x, y, h1, h2, h3, h4⟩)
      · obtain ⟨j, hj⟩ := List.getElem?_of_mem hy
        exact ⟨0, j + 1, m, y, by omega, by simp, by simpa using hj, rfl⟩
      · exact ⟨i + 1, j + 1, x, y, by omega, by simpa using h2, by simpa using h3, h4⟩
    · rintro ⟨i, j, x, y, h1, h2, h3, h4⟩
      cases j with
      | zero => omega
      | succ j =>
        rw [List.getElem?_cons_succ] at h3
        cases i with
        | zero =>
          rw [List.getElem?_cons_zero] at h2
          cases h2
          exact .inl ⟨y, List.mem_of_getElem? h3, h4.symm⟩
        | succ i =>
          rw [List.getElem?_cons_succ] at h2
          exact .inr ⟨i, j, x, y, by omega, h2, h3, h4⟩
theorem spread_ok {ms : List Int} (hl : ms.length ≤ 1000) : m_spread_of ms = .ok (isort (spreadL ms)) := by
  unfold m_spread_of
  rw [Out.bind_ok]
  have key : ∀ (xs pre : List Int) (s : List Int), ms = pre ++ xs → s.length + (spreadL xs).length ≤ 1000000 → Out.fold (σ := List Int) (fun s3 (x5 : (Int × Int)) =>
      (Out.guard ((s3).length + ((pcut ms (some (x5.1 + (1 : Int))) none).map (fun (x8 : Int) => x8 - x5.2)).length ≤ LIM)).bind fun _ =>
      (Out.ok (s3 ++ ((pcut ms (some (x5.1 + (1 : Int))) none).map (fun (x8 : Int) => x8 - x5.2)))).bind fun found11 =>
      Out.ok found11) (penumF pre.length xs) s = .ok (s ++ spreadL xs) := by
    intro xs
    induction xs with
    | nil => intro pre s _ _; unfold penumF spreadL; rw [Out.fold_nil, List.append_nil]
    | cons x xs ih =>
      intro pre s e hs
      unfold penumF
      rw [Out.fold_cons]
      dsimp only
      have hc : pcut ms (some ((pre.length : Int) + 1)) none = xs := by
        rw [show (pre.length : Int) + 1 = ((pre.length + 1 : Nat) : Int) by omega, pcut_from, e]
        rw [show pre ++ x :: xs = (pre ++ [x]) ++ xs by simp, List.drop_left' (by simp)]
      unfold spreadL at hs ⊢
      rw [List.length_append, List.length_map] at hs
      rw [hc, Out.bind_guard (by rw [List.length_map]; show _ ≤ 16777216; omega), Out.bind_ok, Out.bind_ok]
      have := ih (pre ++ [x]) (s ++ xs.map (fun y => y - x)) (by rw [e]; simp) (by rw [List.length_append, List.length_map]; omega)
      rw [show (pre ++ [x]).length = pre.length + 1 by simp] at this
      rw [this, List.append_assoc]
  have hq := spreadL_len ms
  have hb : ms.length * ms.length ≤ 1000 * 1000 := Nat.mul_le_mul hl hl
  have := key ms [] [] rfl (by rw [List.length_nil]; omega)
  rw [show penum ms = penumF ([] : List Int).length ms from rfl, this, List.nil_append, Out.bind_ok]
/-- all different distances -/
def spansL (ms : List Int) : List Int := isort ((dmk ((isort (spreadL ms)).map fun x => (x, true))).map (·.1))
theorem mem_spansL {ms : List Int} {d : Int} : d ∈ spansL ms ↔ d ∈ spreadL ms := by
  unfold spansL
  rw [mem_isort]
  show d ∈ keys (dmk _) ↔ _
  rw [mem_keys_dmk]
  unfold keys
  rw [List.map_map, show ((fun x : Int × Bool => x.1) ∘ fun x : Int => (x, true)) = id from rfl, List.map_id, mem_isort]
theorem spansL_lt (ms : List Int) : (spansL ms).Pairwise (· < ·) := isort_lt (dmk_nodup _)
theorem spans_ok {r : Rul} (hl : r.marks.length ≤ 1000) : m_Ruler_spans r = .ok (spansL r.marks) := by
  unfold m_Ruler_spans spansL; rw [spread_ok hl, Out.bind_ok]
/-- ascending tuples -/
def okT (t : List Int) (v : Int) : Bool := decide (t = []) || (match t.getLast? with | some x => decide (x < v) | none => false)
def tupL (vs : List Int) : Nat → List (List Int)
  | 0 => [[]]
  | n + 1 => (tupL vs n).flatMap fun t => (vs.filter (okT t)).map fun v => t ++ [v]
theorem tupL_mem {vs : List Int} : ∀ (n : Nat) (t : List Int), t ∈ tupL vs n → t.length = n ∧ t.Pairwise (· < ·) ∧ ∀ x, x ∈ t → x ∈ vs
  | 0, t, h => by
    have : t = [] := by simpa [tupL] using h
    subst this; exact ⟨rfl, by simp, by simp⟩
  | n + 1, t, h => by
    unfold tupL at h
    rw [List.mem_flatMap] at h
    obtain ⟨u, hu, ht⟩ := h
    rw [List.mem_map] at ht
    obtain ⟨v, hv, rfl⟩ := ht
    rw [List.mem_filter] at hv
    obtain ⟨h1, h2, h3⟩ := tupL_mem n u hu
    refine ⟨by rw [List.length_append, h1]; rfl, ?_, fun x hx => ?_⟩
    · rw [List.pairwise_append]
      refine ⟨h2, by simp, fun a ha b hb => ?_⟩
      rw [List.mem_singleton] at hb
      subst hb
      have hok := hv.2
      unfold okT at hok
      cases hl : u.getLast? with
      | none => rw [List.getLast?_eq_none_iff] at hl; subst hl; cases ha
      | some z =>
        have hne : ¬ u = [] := fun e => by subst e; cases ha
        rw [hl, decide_eq_false hne, Bool.false_or, decide_eq_true_eq] at hok
        obtain ⟨w, hw⟩ := List.getLast?_eq_some_iff.mp hl
        rw [hw] at h2 ha
        rcases List.mem_append.mp ha with q | q
        · have := (List.pairwise_append.mp h2).2.2 a q z (by simp); omega
        · rw [List.mem_singleton] at q; omega
    · rcases List.mem_append.mp hx with q | q
      · exact h3 x q
      · rw [List.mem_singleton] at q; subst q; exact hv.1
theorem tupL_len {vs : List Int} (h : vs.length ≤ 16) : ∀ n : Nat, (tupL vs n).length ≤ 16 ^ n
  | 0 => by simp [tupL]
  | n + 1 => by
    have ih := tupL_len h n
    unfold tupL
    have key : ∀ L : List (List Int), (L.flatMap fun t => (vs.filter (okT t)).map fun v => t ++ [v]).length ≤ 16 * L.length := by
      intro L
      induction L with
      | nil => simp
      | cons t L ihL =>
        rw [List.flatMap_cons, List.length_append, List.length_map, List.length_cons]
        have := List.length_filter_le (okT t) vs
        omega
    have := key (tupL vs n)
    rw [Nat.pow_succ]
    omega
theorem filterMap_ifT {α β : Type} {c : α → Bool} {f : α → β} : ∀ vs : List α, (vs.filterMap fun v => if c v = true then some (f v) else none) = (vs.filter c).map f
  | [] => rfl
  | v :: vs => by
    by_cases e : c v = true
    · rw [List.filterMap_cons, if_pos e, List.filter_cons_of_pos e, List.map_cons, filterMap_ifT vs]
    · rw [List.filterMap_cons, if_neg e, List.filter_cons_of_neg e, filterMap_ifT vs]
theorem tuples_ok {vs : List Int} (h : vs.length ≤ 16) {n : Nat} (hn : n ≤ 3) : m_tuples_of vs (n : Int) = .ok (tupL vs n) := by
  apply Out.yes.eq
  unfold m_tuples_of
  rw [Out.bind_ok, Out.bind_guard (by constructor <;> omega)]
  refine Out.yes_bind (Out.fold_yes (fun (pre : List Int) (s : List (List Int)) => s = tupL vs pre.length) _ _ rfl fun pre x post s hp hI => ?_) fun s hI => ?_
  · have hpl : n = pre.length + (post.length + 1) := by
      have hl : (rgI 0 (n : Int)).length = pre.length + (post.length + 1) := by rw [hp]; simp
      rw [rgI_length] at hl; omega
    have hlen := tupL_len h pre.length
    have hpow : 16 ^ pre.length ≤ 16 ^ 2 := Nat.pow_le_pow_right (by decide) (by omega)
    rw [Out.bind_ok]
    refine Out.yes_bind (Out.fold_yes (fun (pr : List (List Int)) (u : List (List Int)) => u = pr.flatMap (fun t => (vs.filter (okT t)).map fun v => t ++ [v]) ∧ u.length ≤ 16 * pr.length) _ _ ⟨rfl, by simp⟩ fun pr t po u hpr hJ => ?_) fun u hJ => ?_
    · obtain ⟨j1, j2⟩ := hJ
      have ht : t ∈ tupL vs pre.length := by rw [← hI, hpr]; simp
      have htl := (tupL_mem _ t ht).1
      have hsl : s.length = pr.length + (po.length + 1) := by rw [hpr]; simp
      rw [hI] at hsl
      have hfl := List.length_filter_le (okT t) vs
      have hc : ∀ v : Int, (if (decide (t = ([] : List Int))) = true then Out.ok true else ((Out.get (pix t (-(1 : Int)))).bind fun x19 => Out.ok (decide (x19 < v)))) = .ok (okT t v) := fun v => by
        unfold okT
        by_cases e : t = []
        · rw [if_pos (decide_eq_true e), decide_eq_true e]; rfl
        · rw [if_neg (by rw [decide_eq_false e]; decide), decide_eq_false e, Bool.false_or]
          cases hl : t.getLast? with
          | none => rw [List.getLast?_eq_none_iff] at hl; exact absurd hl e
          | some z => rw [Out.bind_get (pix_last hl)]
      rw [Out.compS_unit (o := fun v => if okT t v = true then some (t ++ [v]) else none) _ _ fun v _ => by
        rw [hc v, Out.bind_ok]
        by_cases e : okT t v = true
        · rw [if_pos e, if_pos e, Out.bind_guard (by rw [List.length_singleton]; show _ ≤ 16777216; omega)]
        · rw [if_neg e, if_neg e]]
      rw [filterMap_ifT, Out.bind_ok, List.nil_append]
      dsimp only
      rw [Out.bind_guard (by rw [List.length_map]; show _ ≤ 16777216; omega), Out.bind_ok]
      refine Out.yes_ok ⟨by rw [j1, List.flatMap_append, List.flatMap_cons, List.flatMap_nil, List.append_nil], ?_⟩
      rw [List.length_append, List.length_map, List.length_append, List.length_singleton]
      omega
    · refine Out.yes_ok ?_
      rw [hJ.1, List.length_append, List.length_singleton, hI]
      rfl
  · refine Out.yes_ok ?_
    rw [hI, rgI_length, show ((n : Int) - 0).toNat = n by omega]
def pd : List Int → List Int
  | [] => []
  | x :: xs => (xs.map fun y => if y - x < 0 then -(y - x) else y - x) ++ pd xs
theorem pd_sorted : ∀ {M : List Int}, M.Pairwise (· < ·) → pd M = spreadL M
  | [], _ => rfl
  | x :: M, h => by
    rw [List.pairwise_cons] at h
    unfold pd spreadL
    rw [pd_sorted h.2]
    congr 1
    exact List.map_congr_left fun y hy => by have := h.1 y hy; rw [if_neg (by omega)]
theorem pd_perm {a b : List Int} (h : a.Perm b) : (pd a).Perm (pd b) := by
  induction h with
  | nil => exact List.Perm.refl _
  | cons x h ih => exact (h.map _).append ih
  | swap x y l =>
    show (((x :: l).map fun z => if z - y < 0 then -(z - y) else z - y) ++ ((l.map fun z => if z - x < 0 then -(z - x) else z - x) ++ pd l)).Perm (((y :: l).map fun z => if z - x < 0 then -(z - x) else z - x) ++ ((l.map fun z => if z - y < 0 then -(z - y) else z - y) ++ pd l))
    rw [List.map_cons, List.map_cons, List.cons_append, List.cons_append]
    have e : (if x - y < 0 then -(x - y) else x - y) = (if y - x < 0 then -(y - x) else y - x) := by split <;> split <;> omega
    rw [e]
    refine List.Perm.cons _ ?_
    rw [← List.append_assoc, ← List.append_assoc]
    exact List.Perm.append_right _ List.perm_append_comm
  | trans _ _ h1 h2 => exact h1.trans h2
theorem pd_append (b : List Int) : ∀ a : List Int, ∃ A, pd (a ++ b) = A ++ pd b
  | [] => ⟨[], rfl⟩
  | x :: a => by
    obtain ⟨A, hA⟩ := pd_append b a
    exact ⟨((a ++ b).map fun y => if y - x < 0 then -(y - x) else y - x) ++ A, by rw [List.cons_append]; show _ ++ pd (a ++ b) = _; rw [hA, List.append_assoc]⟩
theorem pd_len : ∀ a : List Int, 2 * (pd a).length + a.length = a.length * a.length
  | [] => rfl
  | x :: a => by
    have := pd_len a
    unfold pd
    rw [List.length_append, List.length_map, List.length_cons, Nat.add_mul, Nat.mul_add, Nat.mul_add]
    omega
theorem spread_iff {M : List Int} (h : M.Pairwise (· < ·)) {d : Int} : d ∈ spreadL M ↔ ∃ x y, x ∈ M ∧ y ∈ M ∧ x < y ∧ d = y - x := by
  rw [mem_spreadL]
  constructor
  · rintro ⟨i, j, x, y, hij, hi, hj, rfl⟩
    exact ⟨x, y, List.mem_of_getElem? hi, List.mem_of_getElem? hj, pairwise_get h hi hj hij, rfl⟩
  · rintro ⟨x, y, hx, hy, hlt, rfl⟩
    obtain ⟨i, hi⟩ := List.getElem?_of_mem hx
    obtain ⟨j, hj⟩ := List.getElem?_of_mem hy
    refine ⟨i, j, x, y, ?_, hi, hj, rfl⟩
    rcases Nat.lt_or_ge i j with z | z
    · exact z
    · exfalso
      rcases Nat.lt_or_eq_of_le z with z | z
      · have := pairwise_get h hj hi z; omega
      · subst z; rw [hi] at hj; have := Option.some.inj hj; omega
/-- the marks of a ruler, and what may be added -/
structure Fre (ms vs : List Int) (len : Int) : Prop where
  lt : ms.Pairwise (· < ·)
  nd : vs.Nodup
  no : ∀ x, x ∈ vs → x ∉ ms
  few : vs.length ≤ 16
  m12 : ms.length ≤ 12
  rg : ∀ x, x ∈ ms ∨ x ∈ vs → 0 ≤ x ∧ x ≤ len
def cmb (ms t : List Int) : List Int := isort (ms ++ t)
theorem Fre.cmb {ms vs : List Int} {len : Int} (h : Fre ms vs len) {n : Nat} {t : List Int} (ht : t ∈ tupL vs n) : (cmb ms t).Pairwise (· < ·) ∧ (∀ x, x ∈ RB.cmb ms t ↔ x ∈ ms ∨ x ∈ t) ∧ (RB.cmb ms t).length = ms.length + n := by
  obtain ⟨h1, h2, h3⟩ := tupL_mem n t ht
  refine ⟨isort_lt ?_, fun x => ?_, ?_⟩
  · rw [List.nodup_append]
    exact ⟨nodup_of_lt h.lt, nodup_of_lt h2, fun a ha b hb e => h.no b (h3 b hb) (e ▸ ha)⟩
  · unfold RB.cmb; rw [mem_isort, List.mem_append]
  · unfold RB.cmb; rw [isort_length, List.length_append, h1]
/-- all distances up to m are there -/
def goodB (ms : List Int) (m : Int) (t : List Int) : Bool := (rgI 1 (m + 1)).all fun k => decide (k ∈ spreadL (cmb ms t))
theorem goodB_iff {ms : List Int} {m : Int} {t : List Int} : goodB ms m t = true ↔ ∀ k, 1 ≤ k → k ≤ m → k ∈ spreadL (cmb ms t) := by
  unfold goodB
  rw [List.all_eq_true]
  constructor
  · intro h k h1 h2
    exact of_decide_eq_true (h k (mem_rgI.mpr ⟨h1, by omega⟩))
  · intro h k hk
    rw [mem_rgI] at hk
    exact decide_eq_true (h k hk.1 (by omega))
theorem Fre.le {ms vs : List Int} {len : Int} (h : Fre ms vs len) {n : Nat} {t : List Int} (ht : t ∈ tupL vs n) {k : Int} (hk : k ∈ spreadL (RB.cmb ms t)) : k ≤ len := by
  obtain ⟨c1, c2, _⟩ := h.cmb ht
  rw [spread_iff c1] at hk
  obtain ⟨x, y, hx, hy, hlt, rfl⟩ := hk
  have h3 := (tupL_mem n t ht).2.2
  have r1 := h.rg x (((c2 x).mp hx).imp id (h3 x))
  have r2 := h.rg y (((c2 y).mp hy).imp id (h3 y))
  omega
theorem Fre.sup {ms vs : List Int} {len : Int} (h : Fre ms vs len) {n : Nat} {t : List Int} (ht : t ∈ tupL vs n) {k : Int} (hk : k ∈ spreadL ms) : k ∈ spreadL (RB.cmb ms t) := by
  obtain ⟨c1, c2, _⟩ := h.cmb ht
  rw [spread_iff h.lt] at hk
  obtain ⟨x, y, hx, hy, hlt, rfl⟩ := hk
  exact (spread_iff c1).mpr ⟨x, y, (c2 x).mpr (.inl hx), (c2 y).mpr (.inl hy), hlt, rfl⟩
/-- what lacks is no more than the pairs with a new mark -/
theorem Fre.prune {ms vs : List Int} {len : Int} (h : Fre ms vs len) {n : Nat} {t : List Int} (ht : t ∈ tupL vs n) {lk : List Int} (hn : lk.Nodup) (h1 : ∀ k, k ∈ lk → k ∈ spreadL (RB.cmb ms t)) (h2 : ∀ k, k ∈ lk → k ∉ spreadL ms) : 2 * lk.length + ms.length * ms.length + (ms.length + n) ≤ (ms.length + n) * (ms.length + n) + ms.length := by
  obtain ⟨c1, c2, c3⟩ := h.cmb ht
  have p1 : (spreadL (RB.cmb ms t)).Perm (pd (t ++ ms)) := by
    rw [← pd_sorted c1]
    exact pd_perm ((isort_perm _).trans List.perm_append_comm)
  obtain ⟨A, hA⟩ := pd_append ms t
  rw [hA] at p1
  have hsub : ∀ k, k ∈ lk → k ∈ A := fun k hk => by
    have := p1.mem_iff.mp (h1 k hk)
    rcases List.mem_append.mp this with q | q
    · exact q
    · rw [pd_sorted h.lt] at q; exact absurd q (h2 k hk)
  have hl := nodup_len hn hsub
  have e1 := p1.length_eq
  rw [List.length_append] at e1
  have e2 := pd_len (RB.cmb ms t)
  rw [pd_sorted c1, c3] at e2
  have e3 := pd_len ms
  omega
theorem dhas_spread {M : List Int} {k : Int} : dhas (dmk ((isort (spreadL M)).map fun x => (x, true))) k = decide (k ∈ spreadL M) := by
  have : dhas (dmk ((isort (spreadL M)).map fun x => (x, true))) k = true ↔ k ∈ spreadL M := by
    rw [dhas_iff, mem_keys_dmk]
    unfold keys
    rw [List.map_map, List.mem_map]
    constructor
    · rintro ⟨y, hy, e⟩
      have e : y = k := e
      rw [← e]; exact mem_isort.mp hy
    · intro h
      exact ⟨k, mem_isort.mpr h, rfl⟩
  by_cases h : k ∈ spreadL M
  · rw [decide_eq_true h]; exact this.mpr h
  · rw [decide_eq_false h]
    exact Bool.eq_false_iff.mpr fun z => h (this.mp z)
theorem loop_first {β : Type} {f : Unit → List Int → Out (Rt Unit (Option (List Int)))} {c : List Int → Bool} : ∀ (xs : List (List Int)), (∀ t, t ∈ xs → f () t = .ok (if c t = true then .rt (some t) else .nx ())) → Out.loop f xs () = .ok (match (xs.filter c).head? with | some t => .rt (some t) | none => .nx ())
  | [], _ => rfl
  | t :: xs, h => by
    rw [Out.loop_cons, h t List.mem_cons_self, Out.bind_ok]
    by_cases e : c t = true
    · rw [if_pos e, List.filter_cons_of_pos e]; rfl
    · rw [if_neg e, List.filter_cons_of_neg e]
      exact loop_first (β := β) xs fun u hu => h u (List.mem_cons_of_mem _ hu)
theorem first_enough_ok {r : Rul} {vs : List Int} {len m : Int} (h : Fre r.marks vs len) (hl : m_Ruler_length r = .ok len) (hm : 1 ≤ m) (hm2 : m ≤ 300) {n : Nat} (hn : n ≤ 3) : m_first_enough r vs m (n : Int) = .ok ((tupL vs n).filter (goodB r.marks m)).head? := by
  have h12 := h.m12
  unfold m_first_enough
  rw [Out.bind_guard (by constructor <;> omega), Out.bind_guard (by rw [rgI_length]; show _ ≤ 16777216; omega)]
  rw [Out.compS_unit (o := fun k => if (!decide (k ∈ spansL r.marks)) = true then some k else none) _ _ fun k _ => by
    rw [spans_ok (by omega), Out.nox_ok, Out.bind_ok]
    split <;> rfl]
  rw [filterMap_ifT (c := fun k => !decide (k ∈ spansL r.marks)) (f := fun k => k), List.map_id', Out.bind_ok, List.nil_append]
  obtain ⟨lk, hlk⟩ : ∃ lk, lk = (rgI 1 (m + 1)).filter fun k => !decide (k ∈ spansL r.marks) := ⟨_, rfl⟩
  rw [← hlk]
  have hlm : ∀ k, k ∈ lk ↔ (1 ≤ k ∧ k ≤ m) ∧ k ∉ spreadL r.marks := fun k => by
    rw [hlk, List.mem_filter, mem_rgI]
    simp only [Bool.not_eq_true', decide_eq_false_iff_not, mem_spansL]
    constructor
    · rintro ⟨a, b⟩; exact ⟨⟨a.1, by omega⟩, b⟩
    · rintro ⟨a, b⟩; exact ⟨⟨a.1, by omega⟩, b⟩
  have hln : lk.Nodup := by rw [hlk]; exact (nodup_of_lt (rgI_lt _ _)).filter _
  have hle : m_Ruler___len r = (r.marks.length : Int) := rfl
  dsimp only
  rw [hle, Out.bind_guard (by constructor <;> omega), Out.bind_ok, hl, Out.nox_ok, Out.bind_ok]
  have hempty : (∀ t, t ∈ tupL vs n → goodB r.marks m t = false) → ((tupL vs n).filter (goodB r.marks m)).head? = none := fun hh => by
    rw [List.filter_eq_nil_iff.mpr fun t ht => by rw [hh t ht]; decide]; rfl
  by_cases hlt : len < m
  · rw [if_pos (decide_eq_true hlt), Out.bind_ok, if_pos rfl, hempty fun t ht => ?_]
    refine Bool.eq_false_iff.mpr fun z => ?_
    have := h.le ht (goodB_iff.mp z m hm (Int.le_refl _))
    omega
  · rw [if_neg (by rw [decide_eq_false hlt]; decide), Out.bind_guard (.inl (by constructor <;> omega)), Out.bind_guard (by constructor <;> omega), Out.bind_guard (by constructor <;> omega), Out.bind_guard (.inl (by constructor <;> omega)), Out.bind_ok]
    by_cases hpr : (((((r.marks.length : Int) + (n : Int)) * (((r.marks.length : Int) + (n : Int)) - 1)) / 2) - (((r.marks.length : Int) * ((r.marks.length : Int) - 1)) / 2)) < (lk.length : Int)
    · rw [if_pos (decide_eq_true hpr), hempty fun t ht => ?_]
      refine Bool.eq_false_iff.mpr fun z => ?_
      have hg := goodB_iff.mp z
      have hp := h.prune ht hln (fun k hk => by have := (hlm k).mp hk; exact hg k this.1.1 this.1.2) (fun k hk => ((hlm k).mp hk).2)
      obtain ⟨a, ha⟩ : ∃ a : Int, a = (r.marks.length : Int) := ⟨_, rfl⟩
      obtain ⟨b, hb⟩ : ∃ b : Int, b = (r.marks.length : Int) + (n : Int) := ⟨_, rfl⟩
      have e1 : ((r.marks.length * r.marks.length : Nat) : Int) = a * a := by rw [ha]; exact Int.natCast_mul _ _
      have e2 : (((r.marks.length + n) * (r.marks.length + n) : Nat) : Int) = b * b := by rw [hb, Int.natCast_mul]; rfl
      have e3 : b * (b - 1) = b * b - b := by rw [Int.mul_sub, Int.mul_one]
      have e4 : a * (a - 1) = a * a - a := by rw [Int.mul_sub, Int.mul_one]
      rw [← hb, ← ha] at hpr
      rw [e3, e4] at hpr
      have k1 : (b * b - b) % 2 = 0 := by
        rcases Int.emod_two_eq b with q | q
        · have : b * b % 2 = 0 := by rw [Int.mul_emod, q]; rfl
          omega
        · have : b * b % 2 = 1 := by rw [Int.mul_emod, q]; rfl
          omega
      have k2 : (a * a - a) % 2 = 0 := by
        rcases Int.emod_two_eq a with q | q
        · have : a * a % 2 = 0 := by rw [Int.mul_emod, q]; rfl
          omega
        · have : a * a % 2 = 1 := by rw [Int.mul_emod, q]; rfl
          omega
      omega
    · rw [if_neg (by rw [decide_eq_false hpr]; decide), tuples_ok h.few hn, Out.bind_ok]
      rw [loop_first (β := Unit) (c := goodB r.marks m) _ fun t ht => ?_]
      · rw [Out.bind_ok]
        cases ((tupL vs n).filter (goodB r.marks m)).head? with
        | none => rfl
        | some t => rfl
      · obtain ⟨c1, c2, c3⟩ := h.cmb ht
        have htl := (tupL_mem n t ht).1
        unfold m_spans_with_t
        rw [show m_Ruler_marks r = r.marks from rfl, Out.bind_guard (by rw [List.length_append]; show _ ≤ 16777216; omega)]
        show (((m_spread_of_l (cmb r.marks t)).bind _).bind _) = _
        rw [show m_spread_of_l = m_spread_of from rfl, spread_ok (by omega), Out.bind_ok, Out.bind_ok]
        have hcond : (decide (((lk.filter fun k => !dhas (dmk ((isort (spreadL (cmb r.marks t))).map fun x => (x, true))) k).map fun k => k) = ([] : List Int))) = goodB r.marks m t := by
          rw [List.map_id']
          have : (lk.filter fun k => !dhas (dmk ((isort (spreadL (cmb r.marks t))).map fun x => (x, true))) k) = [] ↔ goodB r.marks m t = true := by
            rw [List.filter_eq_nil_iff, goodB_iff]
            constructor
            · intro hh k k1 k2
              by_cases q : k ∈ spreadL r.marks
              · exact h.sup ht q
              · have := hh k ((hlm k).mpr ⟨⟨k1, k2⟩, q⟩)
                rw [dhas_spread] at this
                simpa using this
            · intro hh k hk
              have := (hlm k).mp hk
              rw [dhas_spread, decide_eq_true (hh k this.1.1 this.1.2)]
              decide
          by_cases q : goodB r.marks m t = true
          · rw [q]; exact decide_eq_true (this.mpr q)
          · rw [Bool.eq_false_iff.mpr q]; exact decide_eq_false fun z => q (this.mp z)
        try dsimp only
        rw [hcond]
        split <;> rfl
/-- all tuples, the short ones first -/
def allT (vs : List Int) : List (List Int) := tupL vs 0 ++ (tupL vs 1 ++ (tupL vs 2 ++ tupL vs 3))
theorem free_ok {r : Rul} {len : Int} (hl : m_Ruler_length r = .ok len) (h0 : 0 ≤ len) (h1 : len ≤ 300) : m_free_marks r = .ok ((rgI 1 len).filter fun k => !decide (k ∈ r.marks)) := by
  unfold m_free_marks
  rw [hl, Out.nox_ok, Out.bind_ok, Out.bind_guard (by constructor <;> omega), Out.bind_guard (by rw [rgI_length]; show _ ≤ 16777216; omega), List.map_id']
  rfl
theorem fewest_ok {r : Rul} {vs : List Int} {len m : Int} (h : Fre r.marks vs len) (hl : m_Ruler_length r = .ok len) (hf : m_free_marks r = .ok vs) (hm : 1 ≤ m) (hm2 : m ≤ 300) : m_fewest_marks r m = .ok ((allT vs).filter (goodB r.marks m)).head? := by
  unfold m_fewest_marks
  rw [isnum_t hm hm2, if_neg (by decide), hf, Out.bind_ok]
  have e : ∀ n : Nat, n ≤ 3 → m_first_enough r vs m (n : Int) = .ok ((tupL vs n).filter (goodB r.marks m)).head? := fun n hn => first_enough_ok h hl hm hm2 hn
  have e0 := e 0 (by omega)
  have e1 := e 1 (by omega)
  have e2 := e 2 (by omega)
  have e3 := e 3 (by omega)
  rw [show rgI 0 ((3 : Int) + 1) = [((0 : Nat) : Int), ((1 : Nat) : Int), ((2 : Nat) : Int), ((3 : Nat) : Int)] by decide]
  unfold allT
  rw [List.filter_append, List.filter_append, List.filter_append, List.head?_append, List.head?_append, List.head?_append]
  rw [Out.loop_cons, e0]
  cases ((tupL vs 0).filter (goodB r.marks m)).head? with
  | some t => rfl
  | none =>
    rw [Out.bind_ok, if_neg (show ¬ ((!(none : Option (List Int)).isNone) = true) by decide), Out.bind_ok]
    dsimp only
    rw [Out.loop_cons, e1]
    cases ((tupL vs 1).filter (goodB r.marks m)).head? with
    | some t => rfl
    | none =>
      rw [Out.bind_ok, if_neg (show ¬ ((!(none : Option (List Int)).isNone) = true) by decide), Out.bind_ok]
      dsimp only
      rw [Out.loop_cons, e2]
      cases ((tupL vs 2).filter (goodB r.marks m)).head? with
      | some t => rfl
      | none =>
        rw [Out.bind_ok, if_neg (show ¬ ((!(none : Option (List Int)).isNone) = true) by decide), Out.bind_ok]
        dsimp only
        rw [Out.loop_cons, e3]
        cases ((tupL vs 3).filter (goodB r.marks m)).head? with
        | some t => rfl
        | none => rfl
theorem maxI_some : ∀ (x : Int) (xs : List Int), ∃ m, maxI (x :: xs) = some m := fun x xs => ⟨_, rfl⟩
theorem idxI_some {k : Int} : ∀ {xs : List Int}, k ∈ xs → ∃ j, idxI k xs = some j
  | x :: xs, h => by
    by_cases e : x = k
    · exact ⟨0, by unfold idxI; rw [if_pos e]⟩
    · rcases List.mem_cons.mp h with z | z
      · exact absurd z.symm e
      · obtain ⟨j, hj⟩ := idxI_some z
        exact ⟨j + 1, by unfold idxI; rw [if_neg e, hj]; rfl⟩
/-- a list without some values, each once -/
def remL : List Int → List Int → Option (List Int)
  | left, [] => some left
  | left, t :: ts => if t ∈ left then remL (left.erase t) ts else none
theorem idxI_erase {k : Int} : ∀ {xs : List Int}, k ∈ xs → ∃ j, idxI k xs = some j ∧ xs.eraseIdx j = xs.erase k
  | x :: xs, h => by
    by_cases e : x = k
    · refine ⟨0, by unfold idxI; rw [if_pos e], ?_⟩
      subst e
      rw [List.eraseIdx_cons_zero, List.erase_cons_head]
    · obtain ⟨j, h1, h2⟩ := idxI_erase ((List.mem_cons.mp h).resolve_left fun z => e z.symm)
      refine ⟨j + 1, by unfold idxI; rw [if_neg e, h1]; rfl, ?_⟩
      rw [List.eraseIdx_cons_succ, h2, List.erase_cons_tail (by simpa using e)]
theorem less_ok : ∀ (ts left : List Int), m_less left ts = .ok (remL left ts) := by
  intro ts left
  unfold m_less
  have key : ∀ (ts left : List Int), Out.loop (σ := List Int) (ρ := Option (List Int)) (fun s3 (x5 : Int) =>
      if (!decide (x5 ∈ s3)) = true then (Out.ok (.rt none)) else (
      (Out.get (idxI x5 s3)).bind fun x8 => (Out.ok (s3.eraseIdx x8)).bind fun found9 => Out.ok (.nx found9))) ts left = .ok (match remL left ts with | some s => .nx s | none => .rt none) := by
    intro ts
    induction ts with
    | nil => intro left; rfl
    | cons t ts ih =>
      intro left
      rw [Out.loop_cons]
      unfold remL
      by_cases h : t ∈ left
      · obtain ⟨j, h1, h2⟩ := idxI_erase h
        rw [if_neg (by rw [decide_eq_true h]; decide), if_pos h, Out.bind_get h1, Out.bind_ok, Out.bind_ok, h2]
        exact ih _
      · rw [if_pos (by rw [decide_eq_false h]; decide), if_neg h, Out.bind_ok]
  rw [key, Out.bind_ok]
  cases remL left ts <;> rfl
/-- the distance of two numbers -/
def absD (x y : Int) : Int := if x - y < 0 then -(x - y) else x - y
/-- marks from 0 to an end -/
structure Mks (L : Int) (ms : List Int) : Prop where
  lt : ms.Pairwise (· < ·)
  z : (0 : Int) ∈ ms
  e : L ∈ ms
  rg : ∀ x, x ∈ ms → 0 ≤ x ∧ x ≤ L
theorem Mks.last {L : Int} {ms : List Int} (h : Mks L ms) : ms.getLast? = some L := by
  cases e : ms.getLast? with
  | none =>
    rw [List.getLast?_eq_none_iff] at e
    have := h.e
    rw [e] at this; cases this
  | some y =>
    have hy := List.mem_of_getLast? e
    obtain ⟨w, hw⟩ := List.getLast?_eq_some_iff.mp e
    have hp := h.lt
    have hL := h.e
    rw [hw] at hp hL
    rcases List.mem_append.mp hL with q | q
    · have := (List.pairwise_append.mp hp).2.2 L q y (by simp)
      have := (h.rg y hy).2
      omega
    · rw [List.mem_singleton] at q; rw [q]
theorem Mks.add {L c : Int} {ms : List Int} (h : Mks L ms) (h1 : c ∉ ms) (h2 : 0 ≤ c) (h3 : c ≤ L) : Mks L (isort (ms ++ [c])) := by
  have hm : ∀ x, x ∈ isort (ms ++ [c]) ↔ x ∈ ms ∨ x = c := fun x => by rw [mem_isort, List.mem_append, List.mem_singleton]
  refine ⟨isort_lt ?_, (hm 0).mpr (.inl h.z), (hm L).mpr (.inl h.e), fun x hx => ?_⟩
  · rw [List.nodup_append]
    exact ⟨nodup_of_lt h.lt, by simp, fun a ha b hb e => by rw [List.mem_singleton] at hb; subst hb; subst e; exact h1 ha⟩
  · rcases (hm x).mp hx with z | z
    · exact h.rg x z
    · subst z; exact ⟨h2, h3⟩
def subsL : List Int → Nat → List (List Int)
  | [], _ => [[]]
  | _ :: _, 0 => [[]]
  | x :: xs, k + 1 => subsL xs (k + 1) ++ (subsL xs k).map fun t => x :: t
theorem mem_subsL : ∀ {xs t : List Int} {k : Nat}, t.Sublist xs → t.length ≤ k → t ∈ subsL xs k
  | [], t, k, h, _ => by rw [List.sublist_nil.mp h]; cases k <;> exact List.mem_cons_self
  | x :: xs, t, 0, _, hl => by rw [List.length_eq_zero_iff.mp (Nat.le_zero.mp hl)]; exact List.mem_cons_self
  | x :: xs, t, k + 1, h, hl => by
    show t ∈ subsL xs (k + 1) ++ (subsL xs k).map fun t => x :: t
    cases h with
    | cons _ h => exact List.mem_append_left _ (mem_subsL h hl)
    | cons_cons _ h => exact List.mem_append_right _ (List.mem_map.mpr ⟨_, mem_subsL h (by rw [List.length_cons] at hl; omega), rfl⟩)
def hkey (m : Nat) (t : List Int) : Nat := (thash (0 :: t) % (m : Int)).toNat
def hashGo (m : Nat) : List (List Int) → Nat → Bool
  | [], _ => true
  | t :: ts, acc => !(acc.testBit (hkey m t)) && hashGo m ts (acc ||| 2 ^ hkey m t)
theorem hashGo_ok {m : Nat} : ∀ {ts : List (List Int)} {acc : Nat}, hashGo m ts acc = true → (ts.map (hkey m)).Nodup ∧ ∀ t, t ∈ ts → acc.testBit (hkey m t) = false
  | [], _, _ => ⟨List.nodup_nil, fun t h => (nomatch h)⟩
  | t :: ts, acc, h => by
    unfold hashGo at h
    rw [Bool.and_eq_true] at h
    obtain ⟨h1, h2⟩ := h
    obtain ⟨i1, i2⟩ := hashGo_ok h2
    have h1 : acc.testBit (hkey m t) = false := by simpa using h1
    have key : ∀ s, s ∈ ts → acc.testBit (hkey m s) = false ∧ hkey m t ≠ hkey m s := fun s hs => by
      have := i2 s hs
      rw [Nat.testBit_or, Bool.or_eq_false_iff, Nat.testBit_two_pow] at this
      exact ⟨this.1, of_decide_eq_false this.2⟩
    refine ⟨?_, fun s hs => ?_⟩
    · rw [List.map_cons, List.nodup_cons]
      refine ⟨fun z => ?_, i1⟩
      obtain ⟨s, hs, e⟩ := List.mem_map.mp z
      exact (key s hs).2 e.symm
    · rcases List.mem_cons.mp hs with z | z
      · subst z; exact h1
      · exact (key s z).1
theorem nodup_inj {α β : Type} {f : α → β} : ∀ {l : List α}, (l.map f).Nodup → ∀ {a b : α}, a ∈ l → b ∈ l → f a = f b → a = b
  | [], _, _, _, h, _, _ => nomatch h
  | x :: l, h, a, b, ha, hb, e => by
    rw [List.map_cons, List.nodup_cons] at h
    rcases List.mem_cons.mp ha with z | z <;> rcases List.mem_cons.mp hb with y | y
    · rw [z, y]
    · subst z; exact absurd (List.mem_map.mpr ⟨b, y, e.symm⟩) h.1
    · subst y; exact absurd (List.mem_map.mpr ⟨a, z, e⟩) h.1
    · exact nodup_inj h.2 z y e
def hashBase : List Int := [1, 2, 3, 4, 5, 6, 7, 8, 9, 10, 11, 12, 13, 14]
theorem hash_all : hashGo 524458 (subsL hashBase 5) 0 = true := by decide +kernel
theorem sublist_lt {xs ys : List Int} (hx : xs.Pairwise (· < ·)) (hy : ys.Pairwise (· < ·)) (h : ∀ x, x ∈ xs → x ∈ ys) : xs.Sublist ys := by
  have : xs = ys.filter fun y => decide (y ∈ xs) := sorted_ext hx (hy.sublist List.filter_sublist) fun a => by
    rw [List.mem_filter, decide_eq_true_eq]
    exact ⟨fun z => ⟨h a z, z⟩, fun z => z.2⟩
  rw [this]; exact List.filter_sublist
theorem Mks.tail {L : Int} {f : List Int} (h : Mks L f) : ∃ t, f = 0 :: t := by
  cases f with
  | nil => cases h.z
  | cons a t =>
    refine ⟨t, ?_⟩
    rcases List.mem_cons.mp h.z with z | z
    · rw [← z]
    · have := (List.pairwise_cons.mp h.lt).1 0 z
      have := (h.rg a List.mem_cons_self).1
      omega
theorem Mks.hash {L : Int} (hL : L ≤ 14) {f g : List Int} (hf : Mks L f) (hg : Mks L g) (lf : f.length ≤ 6) (lg : g.length ≤ 6) (e : thash f = thash g) : f = g := by
  have key : ∀ {f : List Int}, Mks L f → f.length ≤ 6 → ∃ t, f = 0 :: t ∧ t ∈ subsL hashBase 5 := fun {f} hf lf => by
    obtain ⟨t, rfl⟩ := hf.tail
    obtain ⟨h1, h2⟩ := List.pairwise_cons.mp hf.lt
    refine ⟨t, rfl, mem_subsL (sublist_lt h2 (by decide) fun x hx => ?_) (by rw [List.length_cons] at lf; omega)⟩
    have q1 := h1 x hx
    have q2 := (hf.rg x (List.mem_cons_of_mem _ hx)).2
    have : hashBase = rgI 1 15 := by decide
    rw [this, mem_rgI]; omega
  obtain ⟨t, rfl, ht⟩ := key hf lf
  obtain ⟨u, rfl, hu⟩ := key hg lg
  have := nodup_inj (hashGo_ok hash_all).1 ht hu (by unfold hkey; rw [e])
  rw [this]
theorem nodup_map {α β : Type} {f : α → β} {l : List α} (h : l.Nodup) (hi : ∀ a b, a ∈ l → b ∈ l → f a = f b → a = b) : (l.map f).Nodup := by
  show (l.map f).Pairwise _
  rw [List.pairwise_map]
  exact h.imp_of_mem fun {a b} ha hb hab e => hab (hi a b ha hb e)
theorem mem_foldput {ν : Type} {y : List Int} : ∀ (xs acc : List (List Int × ν)), y ∈ keys (xs.foldl (fun a p => dput a p.1 p.2) acc) ↔ y ∈ keys acc ∨ y ∈ keys xs
  | [], acc => ⟨.inl, fun h => h.resolve_right fun z => (nomatch z)⟩
  | x :: xs, acc => by
    show y ∈ keys (xs.foldl _ (dput acc x.1 x.2)) ↔ _
    rw [mem_foldput xs, mem_keys_dput]
    show _ ↔ _ ∨ y ∈ x.1 :: keys xs
    rw [List.mem_cons]
    constructor
    · rintro ((h | h) | h)
      · exact .inr (.inl h)
      · exact .inl h
      · exact .inr (.inr h)
    · rintro (h | h | h)
      · exact .inl (.inr h)
      · exact .inl (.inl h)
      · exact .inr h
theorem valid_ok {ds : List Int} (hso : ds.Pairwise (· ≤ ·)) (hr : ∀ d, d ∈ ds → 1 ≤ d ∧ d ≤ 300) (hl : (ds.length : Int) ∈ ([1, 3, 6, 10, 15, 21] : List Int)) : m_validate_distances ds = .ok () := by
  apply Out.yes.eq
  have hl2 : ds.length ≤ 21 := by
    simp only [List.mem_cons, List.not_mem_nil, or_false] at hl
    omega
  unfold m_validate_distances
  refine Out.yes_bind (R := fun _ => True) (Out.fold_yes (fun _ _ => True) _ _ trivial fun pre x post s hp _ => ?_) fun _ _ => ?_
  · obtain ⟨i, hi, h1, h2, _⟩ := penum_split hp
    have hlt := (List.getElem?_eq_some_iff.mp h2).1
    have hx := hr x.2 (List.mem_of_getElem? h2)
    refine Out.yes_bind (R := fun lo => 1 ≤ lo ∧ lo ≤ x.2) ?_ fun lo hlo => ?_
    · rcases Nat.eq_zero_or_pos i with z | z
      · rw [if_pos (by rw [h1, z]; rfl)]
        exact Out.yes_ok ⟨by omega, hx.1⟩
      · rw [if_neg (by rw [h1]; simp; omega)]
        have hprev : ds[i - 1]? = some (ds[i - 1]'(by omega)) := List.getElem?_eq_getElem (by omega)
        refine Out.yes_get (a := ds[i - 1]'(by omega)) (by rw [h1, show ((i : Nat) : Int) - 1 = ((i - 1 : Nat) : Int) by omega]; exact pix_nat hprev) (Out.yes_ok ⟨(hr _ (List.getElem_mem _)).1, ?_⟩)
        obtain ⟨_, e⟩ := List.getElem?_eq_some_iff.mp h2
        rw [← e]
        exact List.pairwise_iff_getElem.mp hso (i - 1) i (by omega) hlt (by omega)
    · refine Out.yes_get (a := 21) (by decide) (Out.yes_ifF ?_ (Out.yes_ok trivial))
      rw [isnum_t hlo.2 hx.2, Bool.or_eq_false_iff]
      exact ⟨decide_eq_false (by omega), rfl⟩
  · refine Out.yes_ifF ?_ (Out.yes_ok rfl)
    rw [decide_eq_true (show (ds.length : Int) ∈ ([1, 3, 6, 10, 15, 21] : List Int) from by
      simp only [List.mem_cons, List.not_mem_nil, or_false] at hl ⊢
      omega)]
    rfl
theorem pcut_initR {α : Type} (xs : List α) : pcut xs none (some (-1)) = xs.dropLast := by
  unfold pcut
  rw [HT.sIx_none, List.drop_zero, Nat.sub_zero, List.dropLast_eq_take]
  congr 1
  unfold HT.sIx
  simp
  omega
def sc (t : Int) (xs : List Int) : List Int := xs.map fun x => t * x
theorem sc_mul {t : Int} (ht : 0 < t) {a b : Int} : t * a = t * b ↔ a = b := ⟨fun h => Int.eq_of_mul_eq_mul_left (by omega) h, fun h => by rw [h]⟩
theorem sc_lt {t : Int} (ht : 0 < t) {a b : Int} : t * a < t * b ↔ a < b := ⟨fun h => Int.lt_of_mul_lt_mul_left h (by omega), fun h => Int.mul_lt_mul_of_pos_left h ht⟩
theorem sc_le {t : Int} (ht : 0 < t) {a b : Int} : t * a ≤ t * b ↔ a ≤ b := ⟨fun h => Int.le_of_mul_le_mul_left h ht, fun h => Int.mul_le_mul_of_nonneg_left h (by omega)⟩
theorem sc_mem {t : Int} (ht : 0 < t) {a : Int} {xs : List Int} : t * a ∈ sc t xs ↔ a ∈ xs := by
  unfold sc
  rw [List.mem_map]
  exact ⟨fun ⟨b, hb, e⟩ => by rw [← (sc_mul ht).mp e]; exact hb, fun h => ⟨a, h, rfl⟩⟩
theorem sc_app (t : Int) (xs ys : List Int) : sc t (xs ++ ys) = sc t xs ++ sc t ys := List.map_append
theorem sc_pw {t : Int} (ht : 0 < t) {xs : List Int} (h : xs.Pairwise (· < ·)) : (sc t xs).Pairwise (· < ·) := by
  unfold sc
  rw [List.pairwise_map]
  exact h.imp fun hab => (sc_lt ht).mpr hab
theorem sc_inj {t : Int} (ht : 0 < t) : ∀ {xs ys : List Int}, sc t xs = sc t ys → xs = ys
  | [], [], _ => rfl
  | [], _ :: _, h => by cases h
  | _ :: _, [], h => by cases h
  | x :: xs, y :: ys, h => by
    have h : t * x :: sc t xs = t * y :: sc t ys := h
    injection h with h1 h2
    rw [(sc_mul ht).mp h1, sc_inj ht h2]
theorem isort_sc {t : Int} (ht : 0 < t) (xs : List Int) : isort (sc t xs) = sc t (isort xs) := by
  refine (isort_of ((isort_perm xs).map _) ?_).symm
  rw [List.pairwise_map]
  exact (isort_sorted xs).imp fun hab => (sc_le ht).mpr hab
theorem erase_sc {t : Int} (ht : 0 < t) (a : Int) : ∀ xs : List Int, (sc t xs).erase (t * a) = sc t (xs.erase a)
  | [] => rfl
  | x :: xs => by
    show (t * x :: sc t xs).erase (t * a) = _
    by_cases e : x = a
    · subst e
      rw [List.erase_cons_head, List.erase_cons_head]
    · rw [List.erase_cons_tail (by simpa using fun z => e ((sc_mul ht).mp z)), List.erase_cons_tail (by simpa using e), erase_sc ht a xs]
      rfl
theorem rem_sc {t : Int} (ht : 0 < t) : ∀ (ts left : List Int), remL (sc t left) (sc t ts) = (remL left ts).map (sc t)
  | [], left => rfl
  | a :: ts, left => by
    show remL (sc t left) (t * a :: sc t ts) = _
    unfold remL
    by_cases e : a ∈ left
    · rw [if_pos ((sc_mem ht).mpr e), if_pos e, erase_sc ht]
      exact rem_sc ht ts _
    · rw [if_neg (fun z => e ((sc_mem ht).mp z)), if_neg e]; rfl
theorem absD_sc {t : Int} (ht : 0 < t) (x y : Int) : absD (t * x) (t * y) = t * absD x y := by
  unfold absD
  rw [← Int.mul_sub]
  by_cases h : x - y < 0
  · have : t * (x - y) < 0 := Int.mul_neg_of_pos_of_neg ht h
    rw [if_pos this, if_pos h, Int.mul_neg]
  · have : ¬ t * (x - y) < 0 := by
      have := Int.mul_nonneg (Int.le_of_lt ht) (show 0 ≤ x - y by omega)
      omega
    rw [if_neg this, if_neg h]
theorem spreadL_sc (t : Int) : ∀ xs : List Int, spreadL (sc t xs) = sc t (spreadL xs)
  | [] => rfl
  | x :: xs => by
    show ((sc t xs).map fun y => y - t * x) ++ spreadL (sc t xs) = sc t ((xs.map fun y => y - x) ++ spreadL xs)
    rw [spreadL_sc t xs, sc_app]
    congr 1
    unfold sc
    rw [List.map_map, List.map_map]
    exact List.map_congr_left fun y _ => (Int.mul_sub t y x).symm
theorem last_sc (t : Int) (xs : List Int) : (sc t xs).getLast? = xs.getLast?.map fun x => t * x := by unfold sc; rw [List.getLast?_map]
theorem spansL_sc {t : Int} (ht : 0 < t) (xs : List Int) : spansL (sc t xs) = sc t (spansL xs) := by
  refine sorted_ext (spansL_lt _) (sc_pw ht (spansL_lt xs)) fun a => ?_
  rw [mem_spansL, spreadL_sc]
  unfold sc
  rw [List.mem_map, List.mem_map]
  constructor
  · rintro ⟨b, hb, e⟩; exact ⟨b, mem_spansL.mpr hb, e⟩
  · rintro ⟨b, hb, e⟩; exact ⟨b, mem_spansL.mp hb, e⟩
def Sim {α β : Type} (φ : α → β) (m : Out α) (m' : Out β) : Prop := ∀ a, m = .ok a → m' = .ok (φ a)
theorem Sim.ok {α β : Type} {φ : α → β} {a : α} {b : β} (h : b = φ a) : Sim φ (Out.ok a) (Out.ok b) := fun c e => by cases e; rw [h]
theorem bind_inv {α β : Type} {m : Out α} {f : α → Out β} {b : β} (h : m.bind f = .ok b) : ∃ a, m = .ok a ∧ f a = .ok b := by
  cases m with
  | ok a => exact ⟨a, rfl, h⟩
  | ex x => cases h
  | no => cases h
theorem Sim.bind {α β γ δ : Type} {φ : α → γ} {ψ : β → δ} {m : Out α} {m' : Out γ} {f : α → Out β} {f' : γ → Out δ} (h : Sim φ m m') (k : ∀ a, Sim ψ (f a) (f' (φ a))) : Sim ψ (m.bind f) (m'.bind f') := fun b e => by
  obtain ⟨a, h1, h2⟩ := bind_inv e
  rw [h a h1, Out.bind_ok]
  exact k a b h2
theorem Sim.get {α β γ δ : Type} {φ : α → γ} {ψ : β → δ} {o : Option α} {o' : Option γ} {f : α → Out β} {f' : γ → Out δ} (h : o' = o.map φ) (k : ∀ a, o = some a → Sim ψ (f a) (f' (φ a))) : Sim ψ ((Out.get o).bind f) ((Out.get o').bind f') := fun b e => by
  cases o with
  | none => cases e
  | some a =>
    subst h
    rw [Out.bind_get rfl] at e
    rw [Out.bind_get (show Option.map φ (some a) = some (φ a) from rfl)]
    exact k a rfl b e
theorem guard_inv {β : Type} {p : Prop} [Decidable p] {f : Unit → Out β} {b : β} (h : ((Out.guard p).bind f) = .ok b) : p ∧ f () = .ok b := by
  by_cases hp : p
  · rw [Out.bind_guard hp] at h; exact ⟨hp, h⟩
  · exfalso
    unfold Out.guard at h
    rw [if_neg hp] at h
    cases h
theorem Sim.guard {β δ : Type} {ψ : β → δ} {p q : Prop} [Decidable p] [Decidable q] {f : Unit → Out β} {f' : Unit → Out δ} (h : p → q) (k : p → Sim ψ (f ()) (f' ())) : Sim ψ ((Out.guard p).bind f) ((Out.guard q).bind f') := fun b e => by
  obtain ⟨h1, h2⟩ := guard_inv e
  rw [Out.bind_guard (h h1)]
  exact k h1 b h2
theorem Sim.ite {β δ : Type} {ψ : β → δ} {c c' : Bool} {a b : Out β} {a' b' : Out δ} (h : c' = c) (k1 : c = true → Sim ψ a a') (k2 : c = false → Sim ψ b b') : Sim ψ (if c = true then a else b) (if c' = true then a' else b') := by
  subst h
  cases c' with
  | true => rw [if_pos rfl, if_pos rfl]; exact k1 rfl
  | false => rw [if_neg Bool.false_ne_true, if_neg Bool.false_ne_true]; exact k2 rfl
theorem Sim.fold {σ σ' α α' : Type} {φ : σ → σ'} {ψ : α → α'} {f : σ → α → Out σ} {f' : σ' → α' → Out σ'} : ∀ (xs : List α) (s : σ), (∀ x s, x ∈ xs → Sim φ (f s x) (f' (φ s) (ψ x))) → Sim φ (Out.fold f xs s) (Out.fold f' (xs.map ψ) (φ s))
  | [], s, _ => Sim.ok rfl
  | x :: xs, s, h => by
    rw [Out.fold_cons, List.map_cons, Out.fold_cons]
    exact (h x s List.mem_cons_self).bind fun s' => Sim.fold xs s' fun y s hy => h y s (List.mem_cons_of_mem _ hy)
theorem less_sc {t : Int} (ht : 0 < t) (ts left : List Int) : Sim (Option.map (sc t)) (m_less left ts) (m_less (sc t left) (sc t ts)) := fun a e => by
  rw [less_ok] at e ⊢
  cases e
  rw [rem_sc ht]
theorem pix_last_sc (t : Int) (xs : List Int) : pix (sc t xs) (-1) = (pix xs (-1)).map fun x => t * x := by
  cases h : xs.getLast? with
  | none => rw [List.getLast?_eq_none_iff] at h; subst h; rfl
  | some x =>
    rw [pix_last h, pix_last (by rw [last_sc, h]; rfl)]; rfl
theorem cands_sc {t : Int} (ht : 0 < t) (a b c : Int) : isort ((dmk [(t * a, true), (t * b - t * c, true)]).map (·.1)) = (isort ((dmk [(a, true), (b - c, true)]).map (·.1))).map fun x => t * x := by
  have hk : ∀ (p q x : Int), x ∈ isort ((dmk [(p, true), (q, true)]).map (·.1)) ↔ x = p ∨ x = q := fun p q x => by
    rw [mem_isort]
    show x ∈ keys (dmk _) ↔ _
    rw [mem_keys_dmk]
    unfold keys
    simp
  refine sorted_ext (isort_lt (dmk_nodup _)) (sc_pw ht (isort_lt (dmk_nodup _))) fun x => ?_
  rw [hk, List.mem_map, ← Int.mul_sub]
  constructor
  · rintro (e | e)
    · exact ⟨a, (hk _ _ _).mpr (.inl rfl), e.symm⟩
    · exact ⟨b - c, (hk _ _ _).mpr (.inr rfl), e.symm⟩
  · rintro ⟨y, hy, e⟩
    rcases (hk _ _ _).mp hy with z | z
    · exact .inl (by rw [← e, z])
    · exact .inr (by rw [← e, z])
theorem grown_sc {t : Int} (ht : 0 < t) : ∀ (n : Nat) (ms left : List Int), Sim (List.map (sc t)) (m_grown n ms left) (m_grown n (sc t ms) (sc t left))
  | 0, _, _ => fun a e => by cases e
  | n + 1, ms, left => by
    unfold m_grown
    refine Sim.ite (decide_eq_decide.mpr ⟨fun h => List.map_eq_nil_iff.mp h, fun h => by rw [h]; rfl⟩) (fun _ => Sim.ok rfl) fun _ => ?_
    refine Sim.bind (φ := List.map (sc t)) (Sim.ok rfl) fun s0 => ?_
    refine Sim.get (pix_last_sc t left) fun x7 _ => Sim.get (pix_last_sc t ms) fun x8 _ => Sim.get (pix_last_sc t left) fun x9 _ => ?_
    rw [cands_sc ht]
    refine Sim.bind (Sim.fold _ s0 fun x fs hx => ?_) fun s => Sim.ok rfl
    refine Sim.bind (φ := List.map (sc t)) (Sim.ite ?_ (fun _ => ?_) fun _ => Sim.ok rfl) fun s => Sim.ok rfl
    · rw [decide_eq_decide.mpr (sc_mem ht), decide_eq_decide.mpr (show (0 : Int) < t * x ↔ 0 < x from by have := sc_lt ht (a := 0) (b := x); rwa [Int.mul_zero] at this)]
    · have e : ((sc t ms).map fun x12 => if t * x - x12 < 0 then -(t * x - x12) else t * x - x12) = sc t (ms.map fun x12 => if x - x12 < 0 then -(x - x12) else x - x12) := by
        unfold sc
        rw [List.map_map, List.map_map]
        exact List.map_congr_left fun y _ => absD_sc ht x y
      rw [e]
      refine Sim.bind (less_sc ht _ left) fun r14 => ?_
      refine Sim.bind (φ := List.map (sc t)) (Sim.ite (by cases r14 <;> rfl) (fun _ => ?_) fun _ => Sim.ok rfl) fun s => Sim.ok rfl
      have e2 : sc t ms ++ [t * x] = sc t (ms ++ [x]) := (sc_app t ms [x]).symm
      refine Sim.guard (fun h => by rw [e2]; unfold sc; rw [List.length_map]; exact h) fun _ => ?_
      refine Sim.get (φ := sc t) rfl fun y18 _ => ?_
      rw [e2, isort_sc ht]
      refine Sim.bind (grown_sc ht n _ _) fun r19 => ?_
      refine Sim.guard (fun h => by rw [List.length_map, List.length_map]; exact h) fun _ => ?_
      refine Sim.bind (φ := List.map (sc t)) (Sim.ok List.map_append.symm) fun s => Sim.ok rfl
theorem law_spans_ok {ms : List Int} (hl : ms.length ≤ 1000) : m_law_spans ms = .ok (isort (spreadL ms)) := by
  unfold m_law_spans
  rw [Out.bind_ok, Out.bind_guard (by constructor <;> omega)]
  have key : ∀ (xs pre : List Int) (s : List Int), ms = pre ++ xs → s.length + (spreadL xs).length ≤ 1000000 → Out.fold (σ := List Int) (fun s3 (x5 : Int) =>
      (Out.compS (fun (s10 : Unit) (x8 : Int) =>
      (Out.get (pix ms x5)).bind fun x12 =>
      Out.ok (some (x8 - x12), ())) (pcut ms (some (x5 + (1 : Int))) none) [] ()).bind fun l11 =>
      (Out.guard ((s3).length + (l11.1).length ≤ LIM)).bind fun _ =>
      (Out.ok (s3 ++ l11.1)).bind fun found14 =>
      Out.ok found14) (rgI (pre.length : Int) (ms.length : Int)) s = .ok (s ++ spreadL xs) := by
    intro xs
    induction xs with
    | nil =>
      intro pre s e _
      rw [e, List.append_nil, rgI_nil (Int.le_refl _), Out.fold_nil]; unfold spreadL; rw [List.append_nil]
    | cons x xs ih =>
      intro pre s e hs
      have hlen : ms.length = pre.length + (xs.length + 1) := by rw [e, List.length_append, List.length_cons]
      rw [rgI_cons (by omega), Out.fold_cons]
      have hc : pcut ms (some ((pre.length : Int) + 1)) none = xs := by
        rw [show (pre.length : Int) + 1 = ((pre.length + 1 : Nat) : Int) by omega, pcut_from, e]
        rw [show pre ++ x :: xs = (pre ++ [x]) ++ xs by simp, List.drop_left' (by simp)]
      have hx : pix ms (pre.length : Int) = some x := pix_nat (by rw [e]; simp)
      rw [hc, Out.compS_unit (o := fun y => some (y - x)) _ _ fun y _ => by rw [Out.bind_get hx]]
      rw [Out.bind_ok, List.nil_append, show (xs.filterMap fun y => some (y - x)) = xs.map fun y => y - x by rw [← List.filterMap_eq_map]; rfl]
      unfold spreadL at hs ⊢
      rw [List.length_append, List.length_map] at hs
      rw [Out.bind_guard (by rw [List.length_map]; show _ ≤ 16777216; omega), Out.bind_ok, Out.bind_ok]
      have := ih (pre ++ [x]) (s ++ xs.map (fun y => y - x)) (by rw [e]; simp) (by rw [List.length_append, List.length_map]; omega)
      rw [show ((pre ++ [x]).length : Int) = (pre.length : Int) + 1 by simp] at this
      rw [this, List.append_assoc]
  have hq := spreadL_len ms
  have hb : ms.length * ms.length ≤ 1000 * 1000 := Nat.mul_le_mul hl hl
  have := key ms [] [] rfl (by rw [List.length_nil]; omega)
  rw [show (0 : Int) = (([] : List Int).length : Int) from rfl, this, List.nil_append, Out.bind_ok]
theorem memB_iff2 {α : Type} [DecidableEq α] {x : α} {xs : List α} : memB x xs = true ↔ x ∈ xs := by unfold memB; exact decide_eq_true_iff
theorem spread2_ok {r : Rul} (hl : r.marks.length ≤ 1000) : m_Ruler_spread r = .ok (isort (spreadL r.marks)) := by
  unfold m_Ruler_spread
  rw [spread_ok hl, Out.bind_ok]
theorem spansL_mem {ms : List Int} {d : Int} : d ∈ spansL ms ↔ d ∈ isort (spreadL ms) := by rw [mem_spansL, mem_isort]
theorem count_iff (ms : List Int) : (spansL ms).filter (fun x => decide ((1 : Int) < ((isort (spreadL ms)).count x : Int))) = [] ↔ (spansL ms).length = (isort (spreadL ms)).length := by
  have hn := nodup_of_lt (spansL_lt ms)
  have hle := nodup_len hn fun x hx => spansL_mem.mp hx
  rw [List.filter_eq_nil_iff]
  constructor
  · intro h
    have hnd : (isort (spreadL ms)).Nodup := by
      rw [List.nodup_iff_count]
      intro a
      by_cases ha : a ∈ isort (spreadL ms)
      · have := h a (spansL_mem.mpr ha)
        rw [decide_eq_true_eq] at this
        omega
      · rw [List.count_eq_zero_of_not_mem ha]; omega
    have := nodup_len hnd fun x hx => spansL_mem.mpr hx
    omega
  · intro h x hx
    rw [decide_eq_true_eq]
    intro hc
    have hx2 := spansL_mem.mp hx
    have hsub : ∀ y, y ∈ spansL ms → y ∈ (isort (spreadL ms)).erase x := fun y hy => by
      by_cases e : y = x
      · subst e
        rw [← List.count_pos_iff, List.count_erase_self]
        omega
      · exact (List.mem_erase_of_ne e).mpr (spansL_mem.mp hy)
    have := nodup_len hn hsub
    rw [List.length_erase_of_mem hx2] at this
    have := List.length_pos_of_mem hx2
    omega
theorem repeated_ok {r : Rul} (h : RulOk r) : m_repeated r = .ok ((spansL r.marks).filter fun x => decide ((1 : Int) < ((isort (spreadL r.marks)).count x : Int))) := by
  have h12 := h.hi
  unfold m_repeated
  rw [spans_ok (by omega), Out.nox_ok, Out.bind_ok]
  rw [Out.compS_unit (o := fun x => if decide ((1 : Int) < ((isort (spreadL r.marks)).count x : Int)) = true then some x else none) _ _ (fun x _ => by
    rw [spread2_ok (by omega), Out.nox_ok, Out.bind_ok]
    split <;> rfl), Out.bind_ok, List.nil_append]
  congr 1
  have := filterMap_ifT (c := fun x => decide ((1 : Int) < ((isort (spreadL r.marks)).count x : Int))) (f := fun x : Int => x) (spansL r.marks)
  rw [List.map_id'] at this
  exact this
theorem sparse_ok {r : Rul} (h : RulOk r) : m_is_sparse r = .ok (decide ((spansL r.marks).length = (isort (spreadL r.marks)).length)) := by
  unfold m_is_sparse
  rw [repeated_ok h, Out.bind_ok]
  congr 1
  exact decide_eq_decide.mpr (count_iff _)
theorem fre_of {r : Rul} {len : Int} (hM : Mks len r.marks) (h12 : r.marks.length ≤ 12) (h16 : len ≤ 16) : Fre r.marks ((rgI 1 len).filter fun k => !decide (k ∈ r.marks)) len := by
  have h0 := (hM.rg len hM.e).1
  refine ⟨hM.lt, (nodup_of_lt (rgI_lt _ _)).filter _, fun x hx => ?_, ?_, h12, fun x hx => ?_⟩
  · rw [List.mem_filter] at hx
    simpa using hx.2
  · have := List.length_filter_le (fun k => !decide (k ∈ r.marks)) (rgI 1 len)
    rw [rgI_length] at this
    omega
  · rcases hx with hx | hx
    · exact hM.rg x hx
    · rw [List.mem_filter, mem_rgI] at hx; omega
theorem rul_of {L : Int} {ms : List Int} (h : Mks L ms) (h2 : 2 ≤ ms.length) (h12 : ms.length ≤ 12) (hL : L ≤ 300) : RulOk ⟨0, ms⟩ := by
  obtain ⟨t, e⟩ := h.tail
  refine ⟨h.lt, by show ms[0]? = _; rw [e]; rfl, h2, h12, fun m hm => by have := h.rg m hm; omega, Int.le_refl _, (by show (0 : Int) ≤ 9; omega)⟩
theorem spansL_len2 (ms : List Int) : (spansL ms).length = (dmk ((isort (spreadL ms)).map fun x => (x, true))).length := by
  unfold spansL; rw [isort_length, List.length_map]
theorem spans_with_ok {ms t : List Int} (h : ms.length + t.length ≤ 1000) : m_spans_with ms t = .ok (dmk ((isort (spreadL (cmb ms t))).map fun x => (x, true))) := by
  unfold m_spans_with
  rw [Out.bind_guard (by rw [List.length_append]; show _ ≤ 16777216; omega)]
  show ((m_spread_of_l (cmb ms t)).bind _) = _
  rw [show m_spread_of_l = m_spread_of from rfl, spread_ok (by unfold cmb; rw [isort_length, List.length_append]; omega), Out.bind_ok]
theorem best_ok {r : Rul} {vs : List Int} (hf : m_free_marks r = .ok vs) (h12 : r.marks.length ≤ 12) : (m_best_mark r).yes fun o => match o with
    | none => vs = []
    | some m => m ∈ vs ∧ ∀ k, k ∈ vs → (spansL (cmb r.marks [k])).length ≤ (spansL (cmb r.marks [m])).length := by
  unfold m_best_mark
  rw [hf, Out.bind_ok]
  refine Out.yes_if (fun hc => Out.yes_ok (of_decide_eq_true hc)) fun hc => ?_
  have hne : vs ≠ [] := of_decide_eq_false hc
  rw [Out.compS_unit (o := fun k => some ((spansL (cmb r.marks [k])).length : Int)) _ _ (fun k _ => by
    rw [show m_Ruler_marks r = r.marks from rfl, spans_with_ok (by rw [List.length_singleton]; omega), Out.nox_ok, Out.bind_ok, spansL_len2]), Out.bind_ok, List.nil_append]
  have e : (vs.filterMap fun k => some ((spansL (cmb r.marks [k])).length : Int)) = vs.map fun k => ((spansL (cmb r.marks [k])).length : Int) := by rw [← List.filterMap_eq_map]; rfl
  rw [e]
  obtain ⟨mx, hmx⟩ : ∃ m, maxI (vs.map fun k => ((spansL (cmb r.marks [k])).length : Int)) = some m := by
    cases vs with
    | nil => exact absurd rfl hne
    | cons a as => exact maxI_some _ _
  obtain ⟨k1, k2⟩ := maxI_spec hmx
  obtain ⟨j, hj⟩ := idxI_some k1
  obtain ⟨j1, _⟩ := idxI_spec hj
  rw [List.getElem?_map] at j1
  obtain ⟨m, hm1, hm2⟩ := Option.map_eq_some_iff.mp j1
  refine Out.yes_get hmx (Out.yes_get hj (Out.yes_get (pix_nat hm1) (Out.yes_ok ⟨List.mem_of_getElem? hm1, fun k hk => ?_⟩)))
  have := k2 _ (List.mem_map.mpr ⟨k, hk, rfl⟩)
  omega
theorem dsort_ofS {α : Type} {en : α → D} {xs ys : List α} (hp : xs.Perm ys) (h : ys.Pairwise fun a b => ltC en a b = true) : dsort en xs = ys := by
  have hq : (dsort en xs).Perm ys := (dsort_perm xs).trans hp
  refine List.Perm.eq_of_pairwise (le := fun a b => leC en a b = true) (fun a b ha hb h1 h2 => ?_) (dsort_sorted xs) (h.imp fun {a b} hab => by unfold leC; rw [ltC_asymm hab]; rfl) hq
  have ha' := hq.mem_iff.mp ha
  unfold leC at h1 h2
  obtain ⟨i, hi, rfl⟩ := List.getElem_of_mem ha'
  obtain ⟨j, hj, rfl⟩ := List.getElem_of_mem hb
  rcases Nat.lt_trichotomy i j with z | z | z
  · rw [List.pairwise_iff_getElem.mp h i j hi hj z] at h2; cases h2
  · subst z; rfl
  · rw [List.pairwise_iff_getElem.mp h j i hj hi z] at h1; cases h1
theorem fm_someS {α β : Type} (f : α → β) (l : List α) : l.filterMap (fun x => some (f x)) = l.map f := by
  rw [← List.filterMap_eq_map]; rfl
def cins (x : Int) : List Int → List Int
  | [] => [x]
  | y :: ys => if x ≤ y then x :: y :: ys else y :: cins x ys
def csort : List Int → List Int
  | [] => []
  | x :: xs => cins x (csort xs)
theorem cins_perm (x : Int) : ∀ ys : List Int, (cins x ys).Perm (x :: ys)
  | [] => List.Perm.refl _
  | y :: ys => by
    unfold cins
    split
    · exact List.Perm.refl _
    · exact ((cins_perm x ys).cons y).trans (List.Perm.swap x y ys)
theorem cins_sorted (x : Int) : ∀ {ys : List Int}, ys.Pairwise (· ≤ ·) → (cins x ys).Pairwise (· ≤ ·)
  | [], _ => by unfold cins; simp
  | y :: ys, h => by
    unfold cins
    obtain ⟨h1, h2⟩ := List.pairwise_cons.mp h
    split
    · rename_i hxy
      refine List.pairwise_cons.mpr ⟨fun a ha => ?_, h⟩
      rcases List.mem_cons.mp ha with z | z
      · omega
      · have := h1 a z; omega
    · rename_i hxy
      refine List.pairwise_cons.mpr ⟨fun a ha => ?_, cins_sorted x h2⟩
      rcases List.mem_cons.mp ((cins_perm x ys).mem_iff.mp ha) with z | z
      · omega
      · exact h1 a z
theorem csort_perm : ∀ xs : List Int, (csort xs).Perm xs
  | [] => List.Perm.refl _
  | x :: xs => (cins_perm x _).trans ((csort_perm xs).cons x)
theorem csort_sorted : ∀ xs : List Int, (csort xs).Pairwise (· ≤ ·)
  | [] => List.Pairwise.nil
  | x :: xs => cins_sorted x (csort_sorted xs)
theorem isort_c (xs : List Int) : isort xs = csort xs := (isort_of (csort_perm xs) (csort_sorted xs)).symm
def grownC : Nat → (List Int) → (List Int) → Out (List (List Int))
  | 0, _, _ => Out.no
  | n + 1, ms, left =>
    if (decide (left = ([] : List Int))) = true then (Out.ok [ms]) else (
    (Out.ok ([] : List (List Int))).bind fun found3 =>
    (Out.get (pix left (-(1 : Int)))).bind fun x7 =>
    (Out.get (pix ms (-(1 : Int)))).bind fun x8 =>
    (Out.get (pix left (-(1 : Int)))).bind fun x9 =>
    (Out.fold (σ := List (List Int)) (fun s4 (x6 : Int) =>
    (if ((!decide (x6 ∈ ms)) && (decide ((0 : Int) < x6))) = true then (
    (m_less left (ms.map (fun (x12 : Int) => if (x6 - x12) < 0 then -(x6 - x12) else (x6 - x12)))).bind fun r14 =>
    (if (!(r14).isNone) = true then (
    (Out.guard ((ms ++ [x6]).length ≤ LIM)).bind fun _ =>
    (Out.get (r14)).bind fun y18 =>
    (grownC n (csort (ms ++ [x6])) y18).bind fun r19 =>
    (Out.guard ((s4).length + (r19).length ≤ LIM)).bind fun _ =>
    (Out.ok (s4 ++ r19)).bind fun found21 =>
    Out.ok found21)
    else (
    Out.ok s4) : Out (List (List Int))).bind fun s15 =>
    Out.ok s15)
    else (
    Out.ok s4) : Out (List (List Int))).bind fun s11 =>
    Out.ok s11) (csort ((dmk [(x7, true), (x8 - x9, true)]).map (·.1))) found3).bind fun s5 =>
    Out.ok s5)
theorem grown_c : ∀ (n : Nat) (ms left : List Int), m_grown n ms left = grownC n ms left
  | 0, _, _ => rfl
  | n + 1, ms, left => by
    unfold m_grown grownC
    simp only [isort_c, grown_c n]
def okIs {α : Type} [DecidableEq α] (m : Out α) (v : α) : Bool := match m with
  | .ok a => decide (a = v)
  | _ => false
theorem okIs_eq {α : Type} [DecidableEq α] {m : Out α} {v : α} (h : okIs m v = true) : m = .ok v := by
  cases m with
  | ok a => rw [show a = v from of_decide_eq_true h]
  | ex x => cases h
  | no => cases h
def mirR (f : List Int) : List Int := f.reverse.map fun m => f.getLast?.getD 0 - m
theorem mirr_is {ms : List Int} (h : ms ≠ []) : m_mirrored ms = .ok (mirR ms) := by
  unfold m_mirrored
  have hx : ms.getLast? = some (ms.getLast h) := List.getLast?_eq_some_getLast h
  rw [Out.compS_unit (o := fun m => some (ms.getLast h - m)) _ _ (fun m _ => by rw [Out.bind_get (pix_last hx)]), Out.bind_ok, List.nil_append]
  unfold mirR
  rw [hx, ← List.filterMap_eq_map]; rfl
theorem lturned_is {ms : List Int} (h : ms ≠ []) : m_law_turned ms = .ok (mirR ms) := mirr_is h
theorem mirR_sc (t : Int) (f : List Int) : mirR (sc t f) = sc t (mirR f) := by
  unfold mirR
  rw [last_sc]
  unfold sc
  rw [← List.map_reverse, List.map_map, List.map_map]
  refine List.map_congr_left fun x _ => ?_
  cases f.getLast? with
  | none => show (0 : Int) - t * x = t * (0 - x); rw [Int.mul_sub, Int.mul_zero]
  | some y => exact (Int.mul_sub t y x).symm
theorem long_is {ms : List Int} {t : Int} (h0 : 0 ≤ t) (h1 : t ≤ 1000) : m_law_long ms t = .ok (sc t ms) := by
  unfold m_law_long
  rw [Out.compS_unit (o := fun x => some (t * x)) _ _ (fun x _ => by rw [Out.bind_guard (.inl (by constructor <;> omega))]), Out.bind_ok, List.nil_append]
  unfold sc
  rw [← List.filterMap_eq_map]; rfl
def lexI : List Int → List Int → Bool
  | [], [] => false
  | [], _ :: _ => true
  | _ :: _, [] => false
  | a :: as, b :: bs => if a = b then lexI as bs else decide (a < b)
theorem ltC_lex : ∀ a b : List Int, ltC (eT eI) a b = lexI a b
  | [], [] => ltC_tup_no _
  | [], b :: bs => ltC_tup_nil _ _
  | a :: as, [] => ltC_tup_no _
  | a :: as, b :: bs => by
    rw [ltC_tup_cons orc_int, ltC_int]
    unfold lexI
    by_cases e : a = b
    · rw [if_pos e, if_pos e, ltC_lex as bs]
    · rw [if_neg e, if_neg e]
theorem lexI_sc {t : Int} (ht : 0 < t) : ∀ a b : List Int, lexI (sc t a) (sc t b) = lexI a b
  | [], [] => rfl
  | [], b :: bs => rfl
  | a :: as, [] => rfl
  | a :: as, b :: bs => by
    show lexI (t * a :: sc t as) (t * b :: sc t bs) = _
    unfold lexI
    by_cases e : a = b
    · rw [if_pos ((sc_mul ht).mpr e), if_pos e, lexI_sc ht as bs]
    · rw [if_neg (fun z => e ((sc_mul ht).mp z)), if_neg e]
      exact decide_eq_decide.mpr (sc_lt ht)
theorem foldput_nodup {ν : Type} : ∀ (xs acc : List (List Int × ν)), (keys acc).Nodup → (keys (xs.foldl (fun a p => dput a p.1 p.2) acc)).Nodup
  | [], _, h => h
  | x :: xs, acc, h => foldput_nodup xs (dput acc x.1 x.2) (dput_nodup h)
/-- rulers_of, if the search is known -/
theorem rulers_is {ds : List Int} {fs : List (List Int)} {L : Int} (hv : m_validate_distances ds = .ok ()) (hl : ds.getLast? = some L) (hg : m_grown 8 [0, L] ds.dropLast = .ok fs) (hne : ∀ f, f ∈ fs → f ≠ []) (hfl : fs.length ≤ 1000) (hmr : ∀ f, f ∈ fs → mirR f ∈ fs) (hh : (fs.map thash).Nodup) (hn : fs.Nodup) (hs : fs.Pairwise fun a b => lexI a b = true) :
    m_rulers_of ds = .ok fs := by
  apply Out.yes.eq
  unfold m_rulers_of
  rw [hv, Out.bind_ok]
  refine Out.yes_get (pix_last hl) ?_
  rw [pcut_initR, hg, Out.bind_ok, Out.bind_ok]
  have hkf : ∀ f, f ∈ keys (dmk (fs.map fun x => (x, true))) ↔ f ∈ fs := fun f => by
    rw [mem_keys_dmk]; unfold keys; rw [List.map_map]
    exact (by simp : f ∈ (fs.map ((fun x => x.1) ∘ fun x => (x, true))) ↔ f ∈ fs)
  have hkl : (dmk (fs.map fun x => (x, true))).length ≤ 1000 := by
    have := dmk_len (fs.map fun x => (x, true))
    rw [List.length_map] at this; omega
  have hnd : (((dmk (fs.map fun x => (x, true))).map (·.1)).map thash).Nodup :=
    nodup_map (dmk_nodup _) fun a b ha hb e => nodup_inj hh ((hkf a).mp ha) ((hkf b).mp hb) e
  refine Out.yes_guard ⟨(by show _ ≤ 1000000; omega), hnd⟩ ?_
  have hll : ((dmk (fs.map fun x => (x, true))).map (·.1)).length = (dmk (fs.map fun x => (x, true))).length := List.length_map _
  rw [Out.compS_unit (o := fun f => some (mirR f, true)) _ _ (fun f hf => by
    rw [mirr_is (hne f ((hkf f).mp hf)), Out.nox_ok, Out.bind_ok]), Out.bind_ok, List.nil_append]
  have e0 : (((dmk (fs.map fun x => (x, true))).map (·.1)).filterMap fun f => some (mirR f, true)) = ((dmk (fs.map fun x => (x, true))).map (·.1)).map fun f => (mirR f, true) := fm_someS _ _
  rw [e0]
  dsimp only
  have hl3 := dmk_len (((dmk (fs.map fun x => (x, true))).map (·.1)).map fun f => (mirR f, true))
  rw [List.length_map, hll] at hl3
  have hK : ∀ x, x ∈ keys ((dmk (((dmk (fs.map fun x => (x, true))).map (·.1)).map fun f => (mirR f, true))).foldl (fun a p => dput a p.1 p.2) (dmk (dmk (fs.map fun x => (x, true))))) ↔ x ∈ fs := fun x => by
    rw [mem_foldput, mem_keys_dmk, hkf, mem_keys_dmk]
    constructor
    · rintro (h | h)
      · exact h
      · obtain ⟨p, hp, rfl⟩ := List.mem_map.mp h
        obtain ⟨f, hf, rfl⟩ := List.mem_map.mp hp
        exact hmr f ((hkf f).mp hf)
    · exact .inl
  refine Out.yes_guard ⟨(by show _ ≤ 1000000; omega), fun e => by omega⟩ (Out.yes_guard ?_ (Out.yes_ok ?_))
  · rw [List.all_eq_true]
    intro f hf
    have := hne f ((hK f).mp hf)
    simpa using this
  · refine dsort_ofS ?_ (hs.imp fun {a b} hab => by rw [ltC_lex]; exact hab)
    refine (List.perm_ext_iff_of_nodup (foldput_nodup _ _ (dmk_nodup _)) hn).mpr hK
/-- what is reckoned out of a ruler's marks -/
structure Base (M : List Int) (L : Int) (fs : List (List Int)) : Prop where
  lt : M.Pairwise (· < ·)
  hd : M[0]? = some 0
  lo : 2 ≤ M.length
  hi : M.length ≤ 12
  le : ∀ m, m ∈ M → 0 ≤ m ∧ m ≤ 25
  cnt : ((spreadL M).length : Int) ∈ ([1, 3, 6, 10, 15, 21] : List Int)
  last : (csort (spreadL M)).getLast? = some L
  rng : ∀ d, d ∈ spreadL M → 1 ≤ d ∧ d ≤ 25
  grw : okIs (grownC 8 [0, L] (csort (spreadL M)).dropLast) fs = true
  mir : ∀ f, f ∈ fs → mirR f ∈ fs
  ne : ∀ f, f ∈ fs → f ≠ []
  few : fs.length ≤ 1000
  lex : fs.Pairwise fun a b => lexI a b = true
  hsh : ∀ t, t ∈ ([1, 2, 3, 4, 5, 6, 7, 8] : List Int) → ((fs.map (sc t)).map thash).Nodup
  mem : M ∈ fs
theorem t_mem {t : Int} (h1 : 1 ≤ t) (h8 : t ≤ 8) : t ∈ ([1, 2, 3, 4, 5, 6, 7, 8] : List Int) := by
  simp only [List.mem_cons, List.not_mem_nil, or_false]; omega
theorem Base.ok {M : List Int} {L : Int} {fs : List (List Int)} (h : Base M L fs) {t : Int} (h1 : 1 ≤ t) (h8 : t ≤ 8) : RulOk ⟨0, sc t M⟩ := by
  refine ⟨sc_pw (by omega) h.lt, ?_, by show 2 ≤ (List.map _ _).length; rw [List.length_map]; exact h.lo, by show (List.map _ _).length ≤ 12; rw [List.length_map]; exact h.hi, fun m hm => ?_, Int.le_refl _, (by show (0 : Int) ≤ 9; omega)⟩
  · show (sc t M)[0]? = _
    unfold sc
    rw [List.getElem?_map, h.hd]
    show some (t * 0) = _
    rw [Int.mul_zero]
  · obtain ⟨x, hx, rfl⟩ := List.mem_map.mp hm
    have h3 := h.le x hx
    have h4 : t * x ≤ 8 * 25 := Int.mul_le_mul h8 h3.2 h3.1 (by omega)
    show t * x ≤ 300
    omega
theorem map_nodup_sc {t : Int} (ht : 0 < t) {fs : List (List Int)} (h : fs.Nodup) : (fs.map (sc t)).Nodup := nodup_map h fun a b _ _ e => sc_inj ht e
theorem Base.rulers {M : List Int} {L : Int} {fs : List (List Int)} (h : Base M L fs) {t : Int} (h1 : 1 ≤ t) (h8 : t ≤ 8) : m_rulers_of (isort (spreadL (sc t M))) = .ok (fs.map (sc t)) := by
  have ht : 0 < t := by omega
  rw [spreadL_sc, isort_sc ht, isort_c]
  have hfn : fs.Nodup := h.lex.imp fun {a b} hab e => by
    subst e
    have : ∀ a : List Int, lexI a a = false := fun a => by
      induction a with
      | nil => rfl
      | cons x a ih => unfold lexI; rw [if_pos rfl]; exact ih
    rw [this] at hab; cases hab
  refine rulers_is (L := t * L) (valid_ok ?_ (fun d hd => ?_) ?_) (by rw [last_sc, h.last]; rfl) ?_ (fun f hf => ?_) (by rw [List.length_map]; exact h.few) (fun f hf => ?_) (h.hsh t (t_mem h1 h8)) (map_nodup_sc ht hfn) ?_
  · unfold sc
    rw [List.pairwise_map]
    exact (csort_sorted _).imp fun hab => (sc_le ht).mpr hab
  · obtain ⟨x, hx, rfl⟩ := List.mem_map.mp hd
    have h3 := h.rng x ((csort_perm _).mem_iff.mp hx)
    have h4 : t * x ≤ 8 * 25 := Int.mul_le_mul h8 h3.2 (by omega) (by omega)
    have h5 : 0 < t * x := Int.mul_pos ht (by omega)
    omega
  · unfold sc
    rw [List.length_map, (csort_perm _).length_eq]
    exact h.cnt
  · have e1 : [0, t * L] = sc t [0, L] := by
      show _ = [t * 0, t * L]
      rw [Int.mul_zero]
    have e2 : (sc t (csort (spreadL M))).dropLast = sc t (csort (spreadL M)).dropLast := by unfold sc; rw [List.map_dropLast]
    rw [e1, e2]
    exact grown_sc ht 8 _ _ fs (by rw [grown_c]; exact okIs_eq h.grw)
  · obtain ⟨g, hg, rfl⟩ := List.mem_map.mp hf
    exact fun z => h.ne g hg (List.map_eq_nil_iff.mp z)
  · obtain ⟨g, hg, rfl⟩ := List.mem_map.mp hf
    rw [mirR_sc]
    exact List.mem_map.mpr ⟨_, h.mir g hg, rfl⟩
  · rw [List.pairwise_map]
    exact h.lex.imp fun {a b} hab => by rw [lexI_sc ht]; exact hab
theorem b_1 : Base [0, 1, 4, 6] 6 [[0, 1, 4, 6], [0, 2, 5, 6]] := by constructor <;> decide +kernel
theorem b_2 : Base [0, 1, 4, 9, 11] 11 [[0, 1, 4, 9, 11], [0, 2, 7, 10, 11]] := by constructor <;> decide +kernel
theorem b_3 : Base [0, 2, 7, 8, 11] 11 [[0, 2, 7, 8, 11], [0, 3, 4, 9, 11]] := by constructor <;> decide +kernel
theorem b_4 : Base [0, 1, 4, 10, 12, 17] 17 [[0, 1, 4, 10, 12, 17], [0, 1, 8, 11, 13, 17], [0, 4, 6, 9, 16, 17], [0, 5, 7, 13, 16, 17]] := by constructor <;> decide +kernel
theorem b_5 : Base [0, 1, 4, 10, 18, 23, 25] 25 [[0, 1, 4, 10, 18, 23, 25], [0, 2, 7, 15, 21, 24, 25]] := by constructor <;> decide +kernel
theorem b_6 : Base [0, 1, 8, 11, 13, 17] 17 [[0, 1, 4, 10, 12, 17], [0, 1, 8, 11, 13, 17], [0, 4, 6, 9, 16, 17], [0, 5, 7, 13, 16, 17]] := by constructor <;> decide +kernel
theorem rul_sc {M : List Int} (lt : M.Pairwise (· < ·)) (hd : M[0]? = some 0) (lo : 2 ≤ M.length) (hi : M.length ≤ 12) (le : ∀ m, m ∈ M → 0 ≤ m ∧ m ≤ 25) {t : Int} (h1 : 1 ≤ t) (h8 : t ≤ 8) : RulOk ⟨0, sc t M⟩ := by
  refine ⟨sc_pw (by omega) lt, ?_, by show 2 ≤ (List.map _ _).length; rw [List.length_map]; exact lo, by show (List.map _ _).length ≤ 12; rw [List.length_map]; exact hi, fun m hm => ?_, Int.le_refl _, (by show (0 : Int) ≤ 9; omega)⟩
  · show (sc t M)[0]? = _
    unfold sc
    rw [List.getElem?_map, hd]
    show some (t * 0) = _
    rw [Int.mul_zero]
  · obtain ⟨x, hx, rfl⟩ := List.mem_map.mp hm
    have h3 := le x hx
    have h4 : t * x ≤ 8 * 25 := Int.mul_le_mul h8 h3.2 h3.1 (by omega)
    show t * x ≤ 300
    omega
/-- no distance twice, either way round -/
structure Spa (M : List Int) : Prop where
  nd : (spreadL M).Nodup
  nd2 : (spreadL (mirR M)).Nodup
  lt : (mirR M).Pairwise (· < ·)
  hd : (mirR M)[0]? = some 0
  lo : 2 ≤ (mirR M).length
  hi : (mirR M).length ≤ 12
  le : ∀ m, m ∈ mirR M → 0 ≤ m ∧ m ≤ 25
theorem s_1 : Spa [0, 1, 4, 6] := by constructor <;> decide +kernel
theorem s_2 : Spa [0, 1, 4, 9, 11] := by constructor <;> decide +kernel
theorem s_3 : Spa [0, 2, 7, 8, 11] := by constructor <;> decide +kernel
theorem s_4 : Spa [0, 1, 4, 10, 12, 17] := by constructor <;> decide +kernel
theorem s_5 : Spa [0, 1, 4, 10, 18, 23, 25] := by constructor <;> decide +kernel
theorem sparse_sc {M : List Int} (hn : (spreadL M).Nodup) {t : Int} (ht : 0 < t) : (spansL (sc t M)).length = (isort (spreadL (sc t M))).length := by
  have h2 : (isort (spreadL (sc t M))).Nodup := by
    rw [(isort_perm _).nodup_iff, spreadL_sc]
    exact nodup_map hn fun a b _ _ e => (sc_mul ht).mp e
  have a := nodup_len (nodup_of_lt (spansL_lt (sc t M))) fun x hx => spansL_mem.mp hx
  have b := nodup_len h2 fun x hx => spansL_mem.mpr hx
  omega
theorem Base.first {M : List Int} {L : Int} {fs : List (List Int)} (h : Base M L fs) (s : Spa M) {t : Int} (h1 : 1 ≤ t) (h8 : t ≤ 8) :
    mk_Ruler (sc t M) 0 = .ok ⟨0, sc t M⟩ ∧ m_is_sparse ⟨0, sc t M⟩ = .ok true ∧ m_repeated ⟨0, sc t M⟩ = .ok [] ∧ m_Ruler_turned ⟨0, sc t M⟩ = .ok ⟨0, sc t (mirR M)⟩ ∧ m_is_sparse ⟨0, sc t (mirR M)⟩ = .ok true := by
  have hok := h.ok h1 h8
  have hok2 := rul_sc s.lt s.hd s.lo s.hi s.le h1 h8
  have e1 := sparse_sc s.nd (t := t) (by omega)
  have e2 := sparse_sc s.nd2 (t := t) (by omega)
  have hne : sc t M ≠ [] := fun z => by have := hok.lo; rw [show (⟨0, sc t M⟩ : Rul).marks = sc t M from rfl, z] at this; simp at this
  refine ⟨mk_Ruler_ok hok, by rw [sparse_ok hok]; exact congrArg Out.ok (decide_eq_true e1), by rw [repeated_ok hok, (count_iff _).mpr e1], ?_, by rw [sparse_ok hok2]; exact congrArg Out.ok (decide_eq_true e2)⟩
  unfold m_Ruler_turned
  rw [show m_mirrored (⟨0, sc t M⟩ : Rul).marks = .ok (mirR (sc t M)) from mirr_is hne, Out.bind_ok, mirR_sc]
  show ((mk_Ruler (sc t (mirR M)) 0).bind _) = _
  rw [mk_Ruler_ok hok2, Out.bind_ok]
def goodC (ms : List Int) (m : Int) (t : List Int) : Bool := (rgI 1 (m + 1)).all fun k => decide (k ∈ spreadL (csort (ms ++ t)))
theorem goodB_c (ms : List Int) (m : Int) : goodB ms m = goodC ms m := by
  funext t
  unfold goodB goodC cmb
  rw [isort_c]
theorem few_is {L m : Int} {o : Option (List Int)} (h1 : 1 ≤ L) (h2 : L ≤ 16) (m1 : 1 ≤ m) (m2 : m ≤ 300) (hd : decide (((allT ((rgI 1 L).filter fun k => !decide (k ∈ [0, L]))).filter (goodC [0, L] m)).head? = o) = true) :
    mk_Ruler [0, L] 0 = .ok ⟨0, [0, L]⟩ ∧ m_fewest_marks ⟨0, [0, L]⟩ m = .ok o := by
  have hM : Mks L [0, L] := ⟨by simp; omega, by simp, by simp, fun x hx => by
    simp only [List.mem_cons, List.not_mem_nil, or_false] at hx
    omega⟩
  have hlen : m_Ruler_length ⟨0, [0, L]⟩ = .ok L := by
    unfold m_Ruler_length
    rw [Out.bind_get (pix_last (show ([0, L] : List Int).getLast? = some L from rfl))]
  refine ⟨mk_Ruler_ok (rul_of hM (by simp) (by simp) (by omega)), ?_⟩
  rw [fewest_ok (fre_of (r := ⟨0, [0, L]⟩) hM (by simp) h2) hlen (free_ok hlen (by omega) (by omega)) m1 m2, goodB_c]
  exact congrArg Out.ok (of_decide_eq_true hd)
theorem f_1 : mk_Ruler [0, 6] 0 = .ok ⟨0, [0, 6]⟩ ∧ m_fewest_marks ⟨0, [0, 6]⟩ 6 = .ok (some [1, 4]) := few_is (by omega) (by omega) (by omega) (by omega) (by decide +kernel)
theorem f_2 : mk_Ruler [0, 3] 0 = .ok ⟨0, [0, 3]⟩ ∧ m_fewest_marks ⟨0, [0, 3]⟩ 3 = .ok (some [1]) := few_is (by omega) (by omega) (by omega) (by omega) (by decide +kernel)
theorem f_3 : mk_Ruler [0, 9] 0 = .ok ⟨0, [0, 9]⟩ ∧ m_fewest_marks ⟨0, [0, 9]⟩ 9 = .ok (some [1, 2, 6]) := few_is (by omega) (by omega) (by omega) (by omega) (by decide +kernel)
theorem f_4 : mk_Ruler [0, 1] 0 = .ok ⟨0, [0, 1]⟩ ∧ m_fewest_marks ⟨0, [0, 1]⟩ 1 = .ok (some []) := few_is (by omega) (by omega) (by omega) (by omega) (by decide +kernel)
theorem f_5 : mk_Ruler [0, 13] 0 = .ok ⟨0, [0, 13]⟩ ∧ m_fewest_marks ⟨0, [0, 13]⟩ 13 = .ok none := few_is (by omega) (by omega) (by omega) (by omega) (by decide +kernel)
theorem even_rep : ∀ t, t ∈ ([1, 2, 3, 4, 5, 6, 7, 8] : List Int) → ∀ n, n ∈ ([5, 6, 7, 8, 9, 10, 11, 12] : List Int) → (sc t (rgI 1 n)).filter (fun x => decide ((1 : Int) < ((spreadL (sc t (rgI 0 n))).count x : Int))) = (sc t (rgI 1 n)).dropLast := by decide +kernel
theorem even_spans {n : Int} : spansL (rgI 0 n) = rgI 1 n := by
  refine sorted_ext (spansL_lt _) (rgI_lt _ _) fun d => ?_
  rw [mem_spansL, spread_iff (rgI_lt _ _), mem_rgI]
  constructor
  · rintro ⟨x, y, hx, hy, hlt, rfl⟩
    rw [mem_rgI] at hx hy
    omega
  · rintro ⟨h1, h2⟩
    exact ⟨0, d, mem_rgI.mpr (by omega), mem_rgI.mpr (by omega), by omega, by omega⟩
theorem law_true (ns : List Int) : m_law ns = .ok true := by
  apply Out.yes.eq
  unfold m_law
  refine Out.yes_bind (take_yes (by omega) (by omega) _) fun r2 h2 => Out.yes_let ?_
  obtain ⟨t, ht⟩ : ∃ t, t = 1 + r2.1 := ⟨_, rfl⟩
  rw [← ht]
  have h1 : 1 ≤ t := by omega
  have h8 : t ≤ 8 := by omega
  refine Out.yes_let (Out.yes_bind (take_yes (by omega) (by omega) _) fun r5 h5 => ?_)
  obtain ⟨M, eM, hM⟩ := pix_some (xs := [([0, 1, 4, 6] : List Int), [0, 1, 4, 9, 11], [0, 2, 7, 8, 11], [0, 1, 4, 10, 12, 17], [0, 1, 4, 10, 18, 23, 25]]) h5.1 (by simp; omega)
  refine Out.yes_get eM ?_
  obtain ⟨L, fs, hB, hS⟩ : ∃ L fs, Base M L fs ∧ Spa M := by
    simp only [List.mem_cons, List.not_mem_nil, or_false] at hM
    rcases hM with rfl | rfl | rfl | rfl | rfl
    · exact ⟨_, _, b_1, s_1⟩
    · exact ⟨_, _, b_2, s_2⟩
    · exact ⟨_, _, b_3, s_3⟩
    · exact ⟨_, _, b_4, s_4⟩
    · exact ⟨_, _, b_5, s_5⟩
  obtain ⟨q1, q2, q3, q4, q5⟩ := hB.first hS h1 h8
  have hlg : ∀ ms, m_law_long ms t = .ok (sc t ms) := fun ms => long_is (by omega) (by omega)
  rw [hlg, Out.bind_ok, q1, Out.bind_ok, q2, Out.bind_ok]
  refine Out.yes_bind (R := fun b => b = false) ?_ fun b hb => ?_
  · rw [if_neg (by decide), q3, Out.bind_ok, if_neg (by decide), q4, Out.bind_ok, q5, Out.bind_ok, Out.bind_ok]
    exact Out.yes_ok rfl
  subst hb
  refine Out.yes_ifF rfl ?_
  have hsp : ∀ {M : List Int}, RulOk ⟨0, sc t M⟩ → (m_Ruler_spread ⟨0, sc t M⟩).nox = .ok (isort (spreadL (sc t M))) := fun {M} h => by
    have := h.hi
    rw [spread2_ok (by omega), Out.nox_ok]
  rw [hsp (hB.ok h1 h8), Out.bind_ok, hB.rulers h1 h8, Out.bind_ok, Out.bind_ok]
  have hne : sc t M ≠ [] := fun z => hB.ne M hB.mem (List.map_eq_nil_iff.mp z)
  refine Out.yes_bind (R := fun b => b = false) ?_ fun b hb => ?_
  · rw [if_neg (by rw [memB_iff2.mpr (List.mem_map.mpr ⟨M, hB.mem, rfl⟩)]; decide), Out.bind_ok, lturned_is hne, Out.bind_ok, mirR_sc, memB_iff2.mpr (List.mem_map.mpr ⟨_, hB.mir M hB.mem, rfl⟩)]
    exact Out.yes_ok rfl
  subst hb
  refine Out.yes_ifF rfl (Out.yes_let (Out.yes_let ?_))
  have e1 : m_law_turned [0, 1, 4, 10, 12, 17] = .ok [0, 5, 7, 13, 16, 17] := lturned_is (by decide)
  have e2 : m_law_turned [0, 1, 8, 11, 13, 17] = .ok [0, 4, 6, 9, 16, 17] := lturned_is (by decide)
  rw [show m_law_turned _ = _ from e1, Out.bind_ok, show m_law_turned _ = _ from e2, Out.bind_ok]
  rw [Out.compS_unit (o := fun ms => some (sc t ms)) _ _ (fun ms _ => by rw [hlg, Out.nox_ok, Out.bind_ok]), Out.bind_ok, List.nil_append, fm_someS]
  dsimp only
  have hdue : dsort (eT eI) ([[0, 1, 4, 10, 12, 17], [0, 1, 8, 11, 13, 17], [0, 5, 7, 13, 16, 17], [0, 4, 6, 9, 16, 17]].map (sc t)) = [[0, 1, 4, 10, 12, 17], [0, 1, 8, 11, 13, 17], [0, 4, 6, 9, 16, 17], [0, 5, 7, 13, 16, 17]].map (sc t) := by
    refine dsort_ofS (List.Perm.map _ (by decide)) ?_
    rw [List.pairwise_map]
    exact b_4.lex.imp fun {a b} hab => by rw [ltC_lex, lexI_sc (by omega)]; exact hab
  refine Out.yes_guard (.inr (by rw [List.all_eq_true]; intro f hf; obtain ⟨g, hg, rfl⟩ := List.mem_map.mp hf; simp only [List.mem_cons, List.not_mem_nil, or_false] at hg; rcases hg with rfl | rfl | rfl | rfl <;> rfl)) (Out.yes_let ?_)
  rw [show dsort (eT eI) _ = _ from hdue]
  rw [hlg, Out.bind_ok, mk_Ruler_ok (b_4.ok h1 h8), Out.bind_ok, hsp (b_4.ok h1 h8), Out.bind_ok, b_4.rulers h1 h8, Out.bind_ok]
  refine Out.yes_ifF (by rw [decide_eq_true rfl]; rfl) ?_
  rw [hlg, Out.bind_ok, mk_Ruler_ok (b_6.ok h1 h8), Out.bind_ok, hsp (b_6.ok h1 h8), Out.bind_ok, b_6.rulers h1 h8, Out.bind_ok]
  refine Out.yes_ifF (by rw [decide_eq_true rfl]; rfl) ?_
  rw [hlg, Out.bind_ok, hlg, Out.bind_ok, Out.bind_ok, Out.bind_ok, law_spans_ok (by show (List.map _ _).length ≤ 1000; simp), Out.bind_ok, b_1.rulers h1 h8, Out.bind_ok]
  refine Out.yes_ifF (by rw [decide_eq_true (show List.map (sc t) [[0, 1, 4, 6], [0, 2, 5, 6]] = [sc t [0, 1, 4, 6], sc t [0, 2, 5, 6]] from rfl)]; rfl) ?_
  refine Out.yes_bind (Out.loop_yes (fun _ _ => True) (fun _ => False) _ _ trivial fun pre x post s hp _ => ?_) fun q hq => ?_
  · have hx : x ∈ ([((6 : Int), (6 : Int), some [(1 : Int), (4 : Int)]), ((3 : Int), (3 : Int), some [(1 : Int)]), ((9 : Int), (9 : Int), some [(1 : Int), (2 : Int), (6 : Int)]), ((1 : Int), (1 : Int), some ([] : List Int)), ((13 : Int), (13 : Int), none)] : List ((Int × Int × Option (List Int)))) := by rw [hp]; simp
    simp only [List.mem_cons, List.not_mem_nil, or_false] at hx
    have fin : ∀ {L m : Int} {o : Option (List Int)}, (mk_Ruler [0, L] 0 = .ok ⟨0, [0, L]⟩ ∧ m_fewest_marks ⟨0, [0, L]⟩ m = .ok o) → x = (L, m, o) → ((mk_Ruler [(0 : Int), x.1] (0 : Int)).bind fun r50 => (m_fewest_marks r50 x.2.1).bind fun r51 => if (!decide (r51 = x.2.2)) = true then (Out.ok (.rt (false, r5.2))) else (Out.ok (.nx ()) : Out (Rt Unit (Bool × Bx)))).yes fun q => q = .nx () := fun {L m o} h e => by
      subst e
      rw [h.1, Out.bind_ok, h.2, Out.bind_ok]
      exact Out.yes_ifF (by rw [decide_eq_true rfl]; rfl) (Out.yes_ok rfl)
    rcases hx with e | e | e | e | e
    · exact (fin f_1 e).mono fun q hq => by subst hq; trivial
    · exact (fin f_2 e).mono fun q hq => by subst hq; trivial
    · exact (fin f_3 e).mono fun q hq => by subst hq; trivial
    · exact (fin f_4 e).mono fun q hq => by subst hq; trivial
    · exact (fin f_5 e).mono fun q hq => by subst hq; trivial
  · cases q with
    | rt v => exact hq.elim
    | nx s =>
      refine Out.yes_bind (take_yes (by omega) (by omega) _) fun r52 h52 => ?_
      obtain ⟨n, hn⟩ : ∃ n, n = 5 + r52.1 := ⟨_, rfl⟩
      rw [← hn]
      refine Out.yes_guard (by unfold RgOk; omega) ?_
      have hnl : (rgI 0 n).length = n.toNat := by rw [rgI_length]; omega
      have hok : RulOk ⟨0, sc t (rgI 0 n)⟩ := rul_sc (rgI_lt _ _) (by rw [rgI_cons (by omega)]; rfl) (by omega) (by omega) (fun m hm => by rw [mem_rgI] at hm; omega) h1 h8
      have hmk : (sc t (rgI 0 n)).length = n.toNat := by unfold sc; rw [List.length_map, hnl]
      rw [hlg, Out.bind_ok, mk_Ruler_ok hok, Out.bind_ok, spans_ok (by show (sc t (rgI 0 n)).length ≤ 1000; omega), Out.nox_ok, Out.bind_ok]
      have hs : spansL (sc t (rgI 0 n)) = sc t (rgI 1 n) := by rw [spansL_sc (by omega), even_spans]
      have hsl : (sc t (rgI 1 n)).length = (n - 1).toNat := by unfold sc; rw [List.length_map, rgI_length]
      show ((Out.guard (0 ≤ (((sc t (rgI 0 n)).length : Nat) : Int) ∧ (((sc t (rgI 0 n)).length : Nat) : Int) < 2 ^ 63)).bind _).yes _
      refine Out.yes_guard (by rw [hmk]; omega) ?_
      have hsc : (spansL (sc t (rgI 0 n))).length ≠ (isort (spreadL (sc t (rgI 0 n)))).length := by
        rw [hs, hsl, isort_length, ← pd_sorted hok.lt]
        have := pd_len (sc t (rgI 0 n))
        rw [hmk] at this
        have h3 : n.toNat * n.toNat ≥ 5 * n.toNat := Nat.mul_le_mul_right _ (by omega)
        show _ ≠ (pd (sc t (rgI 0 n))).length
        omega
      refine Out.yes_bind (R := fun b => b = false) ?_ fun b hb => ?_
      · rw [if_neg (by
          rw [decide_eq_true (show ((spansL (sc t (rgI 0 n))).length : Int) = m_Ruler___len ⟨0, sc t (rgI 0 n)⟩ - 1 from by
            show _ = (((sc t (rgI 0 n)).length : Nat) : Int) - 1
            rw [hs, hsl, hmk]; omega)]; decide)]
        rw [sparse_ok hok, Out.bind_ok, decide_eq_false hsc, if_neg (by decide), repeated_ok hok, Out.bind_ok, Out.bind_ok, Out.bind_ok]
        have hr : (spansL (sc t (rgI 0 n))).filter (fun x => decide ((1 : Int) < ((isort (spreadL (sc t (rgI 0 n)))).count x : Int))) = (spansL (sc t (rgI 0 n))).dropLast := by
          rw [hs, ← even_rep t (t_mem h1 h8) n (by simp only [List.mem_cons, List.not_mem_nil, or_false]; omega)]
          refine List.filter_congr fun x _ => ?_
          rw [(isort_perm _).count_eq x]
        rw [show List.filter _ _ = _ from hr, pcut_initR, decide_eq_true rfl]
        exact Out.yes_ok rfl
      subst hb
      refine Out.yes_ifF rfl ?_
      have hlast : (sc t (rgI 0 n)).getLast? = some (t * (n - 1)) := by
        rw [last_sc, show n = (n - 1) + 1 by omega, rgI_snoc (by omega), List.getLast?_append]
        show some (t * (n - 1)) = some (t * (n - 1 + 1 - 1))
        congr 2; omega
      have hb1 : t * (n - 1) ≤ 8 * 11 := Int.mul_le_mul h8 (by omega) (by omega) (by omega)
      have hb0 : t * 4 ≤ t * (n - 1) := Int.mul_le_mul_of_nonneg_left (by omega) (by omega)
      have hlen : m_Ruler_length ⟨0, sc t (rgI 0 n)⟩ = .ok (t * (n - 1)) := by
        unfold m_Ruler_length
        rw [Out.bind_get (pix_last hlast)]
      refine Out.yes_bind (best_ok (free_ok hlen (by omega) (by omega)) hok.hi) fun o ho => Out.yes_ok ?_
      by_cases e : t = 1
      · rw [decide_eq_true e]
        cases o with
        | none => rfl
        | some m =>
          exfalso
          have hm := ho.1
          rw [List.mem_filter, mem_rgI] at hm
          obtain ⟨m1, m2⟩ := hm
          have m2 : m ∉ sc t (rgI 0 n) := by simpa using m2
          subst e
          exact m2 (List.mem_map.mpr ⟨m, mem_rgI.mpr (by omega), by omega⟩)
      · rw [decide_eq_false e]
        cases o with
        | some m => rfl
        | none =>
          exfalso
          have hz : ((1 : Int) ∈ (rgI 1 (t * (n - 1))).filter fun k => !decide (k ∈ (⟨0, sc t (rgI 0 n)⟩ : Rul).marks)) := by
            rw [List.mem_filter, mem_rgI]
            refine ⟨by omega, ?_⟩
            rw [decide_eq_false]
            · rfl
            · intro z
              obtain ⟨x, hx, ex⟩ := List.mem_map.mp (show (1 : Int) ∈ sc t (rgI 0 n) from z)
              rw [mem_rgI] at hx
              rcases Int.lt_or_le 0 x with y | y
              · have : t * 1 ≤ t * x := Int.mul_le_mul_of_nonneg_left (by omega) (by omega)
                omega
              · have : x = 0 := by omega
                rw [this, Int.mul_zero] at ex
                omega
          have ho : List.filter _ _ = [] := ho
          rw [ho] at hz
          cases hz
local macro_rules | `(tactic| walk_at "vis") => `(tactic| first | exact .inl rfl | exact .inr (.inl rfl) | exact .inr (.inr rfl) | exact .inr rfl)
section
variable {P : Program} {w : World} {K : PySem.W.Frag} {mg : Str → Option Value} {base : Heap} {cx : Nat → Addr} {C_Ruler : Addr} {C_Rack : Addr}
theorem mw_popLt {X : Cy} {ds : List D} {i : Nat} {d : D} {Kt : D → List D → Prop} (hi : ds[i]? = some d) (hlt2 : i < LIM) (k : Kt d (ds.eraseIdx i)) : MutW X "list.pop" ds [.int (i : Nat)] Kt := fun F H p vs us hp hf ex h1 h2 => by
  obtain ⟨v, u', rfl, h3, h4⟩ := h2
  cases (show u' = [] from h4)
  cases (show v = .int (i : Nat) from h3)
  obtain ⟨w, k1, k2⟩ := h1.get hi
  have hlt : i < vs.length := (List.getElem?_eq_some_iff.mp k1).1
  have hb : (i : Int) < 2 ^ 63 := by
    have : (LIM : Int) < 2 ^ 63 := by decide
    omega
  refine ⟨_, mt_popAt, p, vs, (i : Int), i, w, rfl, rfl, hp, by omega, hb, ?_, k1, vs.eraseIdx i, d, ds.eraseIdx i, rfl, k2, h1.eraseIdx i, k⟩
  unfold seqIndex?
  simp
  omega
/-- _law_take, as a plain function -/
theorem eqD_lst0 (ns : List Int) : eqD (.lst (ns.map D.int)) (.lst []) = ns.isEmpty := by
  cases ns with
  | nil => rfl
  | cons n ns => rfl
theorem okD_ints0 (ns : List Int) : okD 1 (.lst (ns.map D.int)) := (eqc_lst eqc_int).ok ns
theorem ok_law_take {f : Addr} {fd : FuncData} (F : Fun K "_law_take" "_law_take" s_law_take f fd) (B : Bn mg) : FnOk P w K mg base (L2.CX P w) 3 f fd ["_law_box", "_law_many"] (spD K (FB (A := Int) (R := Int) (fun a => [eI a]) (fun v => .sh (eI v)) (fun a => m_law_take a))) := by
  refine def_ok F sc_law_take (fun ds G post px h => ?_) (fun cdv A outer s H E F0 T hr ds G post px h tk hp => ?_)
  · obtain ⟨_, _, _, _, _, _, rfl, _⟩ := h; rfl
  obtain ⟨m, G0, b, g, ⟨ns, st⟩, hne, rfl, rfl, h⟩ := h
  unfold m_law_take at h
  dsimp only at h
  obtain ⟨⟨hm0, hm1⟩, h⟩ := Out.gd h
  have nd := sc_law_take.nd
  refine wb_env [.sh (.adr b), .sh (.int m), .no] rfl ?_
  refine wb_cons (ws_if ?_)
  refine wt_cmp (nomark _) ?_
  refine we_ix (fun _ _ => rfl) ?_
  refine we_var 0 rfl (by walk_at "vis") rfl ?_
  refine we_int ?_
  refine ⟨_, _, .inr ⟨b, rfl, bxG_b⟩, .inl rfl, ?_⟩
  refine ixw_lst (d := .adr g) rfl ?_
  refine we_lst (wa_nil ⟨by decide, ?_⟩)
  refine ⟨_, _, .inr ⟨g, rfl, bxG_g hne⟩, .inl rfl, ?_⟩
  refine opw_eqD (n := 1) hr.units (okD_ints0 ns) (okD_ints0 []) (by decide) ?_
  refine ⟨_, rfl, fun hd => ?_, fun hd => ?_⟩
  · have e0 : ns = [] := by
      have := (eqD_lst0 ns).symm.trans hd
      cases ns with
      | nil => rfl
      | cons n ns => cases this
    subst e0
    refine wb_cons (ws_setG ?_)
    refine we_bin ?_
    refine we_t1 (x := "int") (id := "int") rfl B.int bt_int ?_
    refine we_bin ?_
    refine we_ix (fun _ _ => rfl) ?_
    refine we_var 0 rfl (by walk_at "vis") rfl ?_
    refine we_int ?_
    refine ⟨_, _, .inr ⟨b, rfl, bxG_b⟩, .inl rfl, ?_⟩
    refine ixw_lst (d := .int st) rfl ?_
    refine we_int ?_
    refine ⟨_, _, .inl rfl, .inl rfl, ?_⟩
    refine opw_mul (.inr ⟨by decide, by decide⟩) ?_
    refine ⟨_, .inl rfl, ?_⟩
    refine c_int ?_
    refine we_int ?_
    refine ⟨_, _, .inl rfl, .inl rfl, ?_⟩
    refine opw_mod (by decide) ?_
    refine ⟨_, _, rfl, ?_⟩
    refine we_var 0 rfl (by walk_at "vis") rfl ?_
    refine ⟨b, rfl, ?_⟩
    refine we_int ?_
    refine ⟨1, _, 1, rfl, bxG_b, rfl, ?_⟩
    rw [show ([D.adr g, D.int st].set 1 (D.int (st * 48271 % 2147483647))) = [D.adr g, D.int (st * 48271 % 2147483647)] from rfl]
    rw [show updG (bxG G0 b g ([], st)) b (.lst [D.adr g, D.int (st * 48271 % 2147483647)]) = bxG G0 b g ([], st * 48271 % 2147483647) from bxG_setB]
    refine wb_cons (ws_ret ?_)
    refine we_bin ?_
    refine we_t1 (x := "int") (id := "int") rfl B.int bt_int ?_
    refine we_bin ?_
    refine we_ix (fun _ _ => rfl) ?_
    refine we_var 0 rfl (by walk_at "vis") rfl ?_
    refine we_int ?_
    refine ⟨_, _, .inr ⟨b, rfl, bxG_b⟩, .inl rfl, ?_⟩
    refine ixw_lst (d := .int (st * 48271 % 2147483647)) rfl ?_
    refine we_int ?_
    refine ⟨_, _, .inl rfl, .inl rfl, ?_⟩
    refine opw_fdiv ⟨by decide, by decide⟩ ?_
    refine ⟨_, .inl rfl, ?_⟩
    refine c_int ?_
    refine we_var 1 rfl (by walk_at "vis") rfl ?_
    refine ⟨_, _, .inl rfl, .inl rfl, ?_⟩
    refine opw_mod hm0 ?_
    exact ⟨_, rfl, h⟩
  · obtain ⟨n, rs, e0⟩ : ∃ n rs, ns = n :: rs := by
      cases ns with
      | nil => exact absurd ((eqD_lst0 []).symm.trans hd) (by decide)
      | cons n rs => exact ⟨n, rs, rfl⟩
    subst e0
    replace h : post (.sh (.int (n % m))) (bxG G0 b g (if n / m = 0 ∨ n / m = -1 then rs else n / m :: rs, st)) := h
    refine wb_nil ?_
    refine wb_cons (ws_set 2 nd rfl (.inl rfl) ?_)
    refine we_ix (fun _ _ => rfl) ?_
    refine we_ix (fun _ _ => rfl) ?_
    refine we_var 0 rfl (by walk_at "vis") rfl ?_
    refine we_int ?_
    refine ⟨_, _, .inr ⟨b, rfl, bxG_b⟩, .inl rfl, ?_⟩
    refine ixw_lst (d := .adr g) rfl ?_
    refine we_int ?_
    refine ⟨_, _, .inr ⟨g, rfl, bxG_g hne⟩, .inl rfl, ?_⟩
    refine ixw_lst (d := .int n) (atD_nat (j := 0) rfl) ?_
    refine ⟨lt_ rfl, _, rfl, ?_⟩
    refine wb_cons (ws_setG ?_)
    refine we_bin ?_
    refine we_var 2 rfl (by walk_at "vis") rfl ?_
    refine we_var 1 rfl (by walk_at "vis") rfl ?_
    refine ⟨_, _, .inl rfl, .inl rfl, ?_⟩
    refine opw_fdivX ⟨hm0, hm1⟩ ?_
    refine ⟨_, _, rfl, ?_⟩
    refine we_ix (fun _ _ => rfl) ?_
    refine we_var 0 rfl (by walk_at "vis") rfl ?_
    refine we_int ?_
    refine ⟨_, _, .inr ⟨b, rfl, bxG_b⟩, .inl rfl, ?_⟩
    refine ixw_lst (d := .adr g) rfl ?_
    refine ⟨g, rfl, ?_⟩
    refine we_int ?_
    refine ⟨0, _, 0, rfl, bxG_g hne, ixN0 _ _, ?_⟩
    rw [show ((n :: rs).map D.int).set 0 (D.int (n / m)) = (n / m :: rs).map D.int from rfl, bxG_setG hne]
    refine wb_env [.sh (.adr b), .sh (.int m), .sh (.int n)] rfl ?_
    have last : ∀ G', post (.sh (.int (n % m))) G' → WB (cyOf P w K mg base ["_law_box", "_law_many", "_law_figure"] "_law_take" (defScope s_law_take) f cdv A outer s H E F0 T px) ((defBody s_law_take).drop 4) [.sh (.adr b), .sh (.int m), .sh (.int n)] G' { nx := fun _ G' => post (.sh .non) G', rt := post } := fun G' hG => by
      refine wb_cons (ws_ret ?_)
      refine we_bin ?_
      refine we_var 2 rfl (by walk_at "vis") rfl ?_
      refine we_var 1 rfl (by walk_at "vis") rfl ?_
      refine ⟨_, _, .inl rfl, .inl rfl, ?_⟩
      refine opw_mod hm0 ?_
      exact ⟨_, rfl, hG⟩
    have item : ∀ {Q : Res → Prop}, Q (.sh (.int (n / m))) → IxW (cyOf P w K mg base ["_law_box", "_law_many", "_law_figure"] "_law_take" (defScope s_law_take) f cdv A outer s H E F0 T px) (.lst ((n / m :: rs).map D.int)) (.int 0) Q := fun q => ixw_lst (d := .int (n / m)) (atD_nat (j := 0) rfl) q
    refine wb_cons (ws_if ?_)
    refine wt_w (ww_orB ?_)
    refine wt_cmp (nomark _) ?_
    refine we_ix (fun _ _ => rfl) ?_
    refine we_ix (fun _ _ => rfl) ?_
    refine we_var 0 rfl (by walk_at "vis") rfl ?_
    refine we_int ?_
    refine ⟨_, _, .inr ⟨b, rfl, bxG_b⟩, .inl rfl, ?_⟩
    refine ixw_lst (d := .adr g) rfl ?_
    refine we_int ?_
    refine ⟨_, _, .inr ⟨g, rfl, bxG_g hne⟩, .inl rfl, ?_⟩
    refine item ?_
    refine we_int ?_
    refine ⟨_, _, .inl rfl, .inl rfl, ?_⟩
    refine opw_eqI ?_
    refine ⟨_, rfl, ?_⟩
    refine ⟨decide (n / m = -1), fun hc => ?_, ?_⟩
    · refine ww_or1 ?_
      refine wt_cmp (nomark _) ?_
      refine we_ix (fun _ _ => rfl) ?_
      refine we_ix (fun _ _ => rfl) ?_
      refine we_var 0 rfl (by walk_at "vis") rfl ?_
      refine we_int ?_
      refine ⟨_, _, .inr ⟨b, rfl, bxG_b⟩, .inl rfl, ?_⟩
      refine ixw_lst (d := .adr g) rfl ?_
      refine we_int ?_
      refine ⟨_, _, .inr ⟨g, rfl, bxG_g hne⟩, .inl rfl, ?_⟩
      refine item ?_
      refine we_un rfl ?_
      refine we_int ?_
      refine ⟨_, rfl, ?_⟩
      refine ⟨_, _, .inl rfl, .inl rfl, ?_⟩
      refine opw_eqI ?_
      exact ⟨_, rfl, rfl, rfl, rfl⟩
    refine ⟨fun hd2 => ?_, fun hd2 => ?_⟩
    · have hc : n / m = 0 ∨ n / m = -1 := by
        simpa using hd2
      refine wb_cons (ws_expr ?_)
      refine we_m1G PySem.F.plainAttrs_list PySem.F.slot_list_pop PySem.F.type_list_pop ?_
      refine we_ix (fun _ _ => rfl) ?_
      refine we_var 0 rfl (by walk_at "vis") rfl ?_
      refine we_int ?_
      refine ⟨_, _, .inr ⟨b, rfl, bxG_b⟩, .inl rfl, ?_⟩
      refine ixw_lst (d := .adr g) rfl ?_
      refine ⟨g, _, rfl, bxG_g hne, ?_⟩
      refine we_int ?_
      refine ⟨_, _, (n / m :: rs).map D.int, rfl, bxG_g hne, ?_⟩
      refine mw_popLt (i := 0) (d := .int (n / m)) rfl (by decide) ?_
      refine wb_nil ?_
      rw [show ((n / m :: rs).map D.int).eraseIdx 0 = rs.map D.int from rfl, bxG_setG hne]
      refine last _ ?_
      rw [if_pos hc] at h
      exact h
    · have hc : ¬ (n / m = 0 ∨ n / m = -1) := by
        simpa using hd2
      refine wb_nil ?_
      refine last _ ?_
      rw [if_neg hc] at h
      exact h
/-- _law_begun, as a plain function -/
theorem ok_law_begun {f : Addr} {fd : FuncData} (F : Fun K "_law_begun" "_law_begun" s_law_begun f fd) (B : Bn mg) : FnOk P w K mg base (L2.CX P w) 3 f fd ["_law_script"] (spD K (FBegun m_law_begun)) := by
  refine def_ok F sc_law_begun (fun ds G post px h => ?_) (fun cdv A outer s H E F0 T hr ds G post px h tk hp => ?_)
  · obtain ⟨_, rfl, _⟩ := h; rfl
  obtain ⟨ns, rfl, hq⟩ := h
  have nd := sc_law_begun.nd
  refine wb_cons (ws_set 1 nd rfl (.inl rfl) ?_)
  refine we_int ?_
  refine ⟨lt_ rfl, _, rfl, ?_⟩
  refine wb_cons (ws_for (is := [2]) hp rfl ?_)
  refine wi_scr ?_
  refine we_var 0 rfl (by walk_at "vis") rfl ?_
  refine ⟨ns, _, rfl, fun k r G' => G' = G ∧ ∃ z, r = [.sh (.scr ns), .sh (.int ((ns.take k).foldl (fun s n => (s * 48271 + n * 69621 + 11) % 2147483647) 0)), z], ⟨rfl, .no, rfl⟩, fun k d r3 G3 hk ⟨h1, z, h2⟩ => ?_, fun r3 G3 ⟨h1, z, h2⟩ => ?_⟩
  · subst h1 h2
    obtain ⟨n, hn, rfl⟩ := map_at hk
    refine wg_name 2 nd rfl (.inl rfl) (by decide) (lt_ rfl) ?_
    refine wb_cons (ws_set 1 nd rfl (.inl rfl) ?_)
    refine we_bin ?_
    refine we_t1 (x := "int") (id := "int") rfl B.int bt_int ?_
    refine we_bin ?_
    refine we_bin ?_
    refine we_bin ?_
    refine we_var 1 rfl (by walk_at "vis") rfl ?_
    refine we_int ?_
    refine ⟨_, _, .inl rfl, .inl rfl, ?_⟩
    refine opw_mul (.inr ⟨by decide, by decide⟩) ?_
    refine we_bin ?_
    refine we_var 2 rfl (by walk_at "vis") rfl ?_
    refine we_int ?_
    refine ⟨_, _, .inl rfl, .inl rfl, ?_⟩
    refine opw_mul (.inr ⟨by decide, by decide⟩) ?_
    refine ⟨_, _, .inl rfl, .inl rfl, ?_⟩
    refine opw_add ?_
    refine we_int ?_
    refine ⟨_, _, .inl rfl, .inl rfl, ?_⟩
    refine opw_add ?_
    refine ⟨_, .inl rfl, ?_⟩
    refine c_int ?_
    refine we_int ?_
    refine ⟨_, _, .inl rfl, .inl rfl, ?_⟩
    refine opw_mod (by decide) ?_
    refine ⟨lt_ rfl, _, rfl, ?_⟩
    refine wb_nil ⟨rfl, .sh (.int n), ?_⟩
    rw [List.take_add_one, hn]
    show _ = [_, Sl.sh (.int (List.foldl _ _ (ns.take k ++ [n]))), _]
    rw [List.foldl_append]
    rfl
  · subst h1 h2
    rw [List.length_map, List.take_length]
    refine wb_cons (ws_ret ?_)
    refine we_open ?_
    refine we_lst ?_
    refine wa_cons ?_
    refine we_open ?_
    refine we_t1 (x := "list") (id := "list") rfl B.list bt_list ?_
    refine we_var 0 rfl (by walk_at "vis") rfl ?_
    refine ⟨_, .inl rfl, ?_⟩
    refine c_listR ?_
    refine ⟨_, rfl, fun g hg => ?_⟩
    refine ⟨_, _, rfl, ?_⟩
    refine wa_cons ?_
    refine we_bin ?_
    refine we_var 1 rfl (by walk_at "vis") rfl ?_
    refine we_t1 (x := "int") (id := "int") rfl B.int bt_int ?_
    refine we_cmp (nomark _) ?_
    refine we_b1 (x := "len") (id := "len") rfl B.len bt_len ?_
    refine we_var 0 rfl (by walk_at "vis") rfl ?_
    refine ⟨_, .inl rfl, ?_⟩
    refine c_lenR ?_
    refine we_int ?_
    refine ⟨_, _, .inl rfl, .inl rfl, ?_⟩
    refine opw_gt ?_
    refine ⟨_, .inl rfl, ?_⟩
    refine c_intB ?_
    refine ⟨_, _, .inl rfl, .inl rfl, ?_⟩
    refine opw_mul (.inr ?_) ?_
    · split <;> decide
    refine ⟨_, _, rfl, ?_⟩
    refine wa_nil ?_
    refine ⟨lt_ rfl, ?_⟩
    refine ⟨_, rfl, fun b hb => ?_⟩
    have hne : g ≠ b := fun z => by subst z; rw [updG_same] at hb; cases hb
    exact ⟨_, rfl, hq b g hne (by rwa [updG_ne (Ne.symm hne)] at hb) hg⟩
theorem ok_is_number {f : Addr} {fd : FuncData} (F : Fun K "is_number" "is_number" s_is_number f fd) (B : Bn mg) : FnOk P w K mg base (L2.CX P w) 3 f fd ["value", "lowest", "highest"] (spD K (FM cx (A := Int × Int × Int) (R := Bool) (fun a => [eI a.1, eI a.2.1, eI a.2.2]) (fun v => .sh (eB v)) (fun a => .ok (m_is_number a.1 a.2.1 a.2.2)))) := by
  refine def_ok F sc_is_number (fun ds G post px h => ?_) (fun cdv A outer s H E F0 T hr ds G post px h tk hp => ?_)
  · obtain ⟨_, rfl, _⟩ := h; rfl
  obtain ⟨⟨value1, lowest2, highest3⟩, rfl, h⟩ := h
  unfold m_is_number at h
  try dsimp only at h
  have nd := sc_is_number.nd
  change WB _ _ [.sh (eI value1), .sh (eI lowest2), .sh (eI highest3)] _ _
  -- 23
  refine wb_cons (ws_ret ?_)
  refine we_andP (c2 := (!false) && ((decide (lowest2 ≤ value1)) && (decide (value1 ≤ highest3)))) ?_
  refine we_isi rfl B.isinstance bt_isinstance rfl B.int bt_int ?_
  refine we_var 0 rfl (by walk_at "vis") rfl ?_
  refine ⟨_, _, _, .inl rfl, rfl, kt_int_int, ?_⟩
  refine ⟨_, rfl, fun _ => ?_, ?_⟩
  · skip
    refine we_andP (c2 := (decide (lowest2 ≤ value1)) && (decide (value1 ≤ highest3))) ?_
    refine we_not ?_
    refine we_isi rfl B.isinstance bt_isinstance rfl B.bool bt_bool ?_
    refine we_var 0 rfl (by walk_at "vis") rfl ?_
    refine ⟨_, _, _, .inl rfl, rfl, kt_int_bool, ?_⟩
    refine ⟨_, rfl, ?_⟩
    refine ⟨_, rfl, fun _ => ?_, ?_⟩
    · skip
      refine we_one ?_
      refine we_chainI (fun i j R q => opw_le q) (fun i j R q => opw_le q) ?_
      refine we_var 1 rfl (by walk_at "vis") rfl ?_
      refine we_var 0 rfl (by walk_at "vis") rfl ?_
      refine ⟨_, _, highest3, rfl, rfl, fun _ => ?_, ?_⟩
      · skip
        refine we_var 2 rfl (by walk_at "vis") rfl ?_
        exact ⟨rfl, rfl, rfl⟩
      exact ⟨rfl, rfl, rfl⟩
    exact ⟨rfl, rfl, rfl⟩
  refine ⟨_, rfl, ?_⟩
  exact h
theorem ok_Ruler_init {f : Addr} {fd : FuncData} (F : Fun K "__init__" "Ruler.__init__" s_Ruler_init f fd) (B : Bn mg) (c_is_number : Cal P w K mg base "is_number" 3 ["value", "lowest", "highest"] (FM cx (A := Int × Int × Int) (R := Bool) (fun a => [eI a.1, eI a.2.1, eI a.2.2]) (fun v => .sh (eB v)) (fun a => .ok (m_is_number a.1 a.2.1 a.2.2)))) (cl_Ruler : Cl_Ruler K C_Ruler) {t_MAX_ERROR : Tok} (m_MAX_ERROR : mg "MAX_ERROR" = some (.int 9 t_MAX_ERROR)) {t_MAX_LENGTH : Tok} (m_MAX_LENGTH : mg "MAX_LENGTH" = some (.int 300 t_MAX_LENGTH)) {t_MAX_MARKS : Tok} (m_MAX_MARKS : mg "MAX_MARKS" = some (.int 12 t_MAX_MARKS)) {t_MIN_MARKS : Tok} (m_MIN_MARKS : mg "MIN_MARKS" = some (.int 2 t_MIN_MARKS)) : FnOk P w K mg base (L2.CX P w) 5 f fd ["self", "marks", "error"] (spI K C_Ruler (FMI cx (A := (List Int) × Int) (R := Rul) (fun a => [(eT eI) a.1, eI a.2]) (fun r => [.int r.error, .tup (r.marks.map D.int)]) (fun a => mk_Ruler a.1 a.2))) := by
  obtain ⟨q_Ruler_0, sl_Ruler_0⟩ := cl_Ruler.s0
  obtain ⟨q_Ruler_1, sl_Ruler_1⟩ := cl_Ruler.s1
  have nd := sc_Ruler_init.nd
  refine init2r_ok F sc_Ruler_init cl_Ruler.cls sl_Ruler_1 sl_Ruler_0 (fun ds G post px h => ?_) ((defBody s_Ruler_init).take 3) ((defBody s_Ruler_init).getD 3 (.Pass ⟨0, 0, 0, 0⟩)) ((defBody s_Ruler_init).getD 4 (.Pass ⟨0, 0, 0, 0⟩)) 1 2 rfl (fun cdv A outer s H E F0 T hr px => ⟨SlX.ps_sl (pe_var rfl (by walk_at "vis")) (pe_var rfl (by walk_at "vis")), SlX.ps_sl (pe_var rfl (by walk_at "vis")) (pe_var rfl (by walk_at "vis")), fun a0 ds G post h tk hp => ?_⟩)
  · obtain ⟨_, rfl, _⟩ := h; rfl
  obtain ⟨⟨marks1, error2⟩, rfl, h⟩ := h
  unfold mk_Ruler at h
  try dsimp only at h
  change WB _ _ [.sh (.adr a0), .sh ((eT eI) marks1), .sh (eI error2), .no, .no, .no] _ _
  -- 35
  refine Hold.h ?_
  refine wb_forOH (β := Rul) [3, 4] (σT := Unit) (fun s3 => [.sh (.adr a0), .sh ((eT eI) marks1), .sh (eI error2), .no, .no, .no]) (fun s3 => G) (eP eI eI) hp rfl ?_
  refine ti_enumT (f := eI) rfl B.enumerate ?_
  refine we_var 1 rfl (by walk_at "vis") rfl ?_
  refine ⟨marks1, _, rfl, fun hl6 => ?_⟩
  refine ⟨(penum marks1), (), _, _, _, _, rfl, (.eq (.eq (.eq (.no (.no (.no .nil)))))), rfl, h, fun s3 x5 Q' h => ?_, fun s4 h => ?_⟩
  · skip
    refine wg_pair 3 4 rfl nd rfl rfl (by walk_at "vis") (by walk_at "vis") (by decide) (by decide) (lt_ rfl) (lt_ rfl) ?_
    change WB _ _ [.sh (.adr a0), .sh ((eT eI) marks1), .sh (eI error2), .sh (eI x5.1), .sh (eI x5.2), .no] _ _
    -- 36
    refine wb_cons ?_
    refine Hold.h ?_
    refine ws_setH 5 nd rfl (by walk_at "vis") ?_
    refine we_ifN eI ?_
    refine wt_cmp (nomark _) ?_
    refine we_var 3 rfl (by walk_at "vis") rfl ?_
    refine we_int ?_
    refine ⟨_, _, .inl rfl, .inl rfl, ?_⟩
    refine opw_eqI ?_
    refine ⟨_, rfl, ?_⟩
    refine ⟨_, _, _, _, _, _, h, fun _ Q' h => ?_, fun _ Q' h => ?_, fun i7 h => ?_⟩
    · skip
      refine we_int ?_
      exact ⟨_, rfl, rfl, rfl, h⟩
    · skip
      refine we_bin ?_
      refine we_ix (fun _ _ => rfl) ?_
      refine we_var 1 rfl (by walk_at "vis") rfl ?_
      refine we_bin ?_
      refine we_var 3 rfl (by walk_at "vis") rfl ?_
      refine we_int ?_
      refine ⟨_, _, .inl rfl, .inl rfl, ?_⟩
      refine opw_sub ?_
      obtain ⟨x8, hx8, h⟩ := Out.gt h
      refine ⟨_, _, .inl rfl, .inl rfl, ?_⟩
      refine t_ixT (f := eI) hx8 ?_
      refine we_int ?_
      refine ⟨_, _, .inl rfl, .inl rfl, ?_⟩
      refine opw_add ?_
      exact ⟨_, rfl, rfl, rfl, h⟩
    refine ⟨lt_ rfl, _, rfl, ?_⟩
    change WB _ _ [.sh (.adr a0), .sh ((eT eI) marks1), .sh (eI error2), .sh (eI x5.1), .sh (eI x5.2), .sh (eI i7)] _ _
    -- 37
    refine wb_cons (ws_if ?_)
    refine wt_w ?_
    refine ww_orB ?_
    refine wt_cmp (nomark _) ?_
    refine we_var 3 rfl (by walk_at "vis") rfl ?_
    refine we_globI rfl m_MAX_MARKS ?_
    refine ⟨_, _, .inl rfl, .inl rfl, ?_⟩
    refine opw_eqI ?_
    refine ⟨_, rfl, ?_⟩
    refine ⟨(!(m_is_number x5.2 i7 (if (decide (x5.1 = (0 : Int))) = true then (0 : Int) else (300 : Int)))), fun _ => ?_, ?_⟩
    · skip
      refine ww_or1 ?_
      refine wt_not ?_
      refine wt_val (fun _ => rfl) ?_
      refine we_cal tk c_is_number hr rfl ?_
      refine wa_cons ?_
      refine we_var 4 rfl (by walk_at "vis") rfl ?_
      refine ⟨_, _, rfl, ?_⟩
      refine wa_cons ?_
      refine we_var 5 rfl (by walk_at "vis") rfl ?_
      refine ⟨_, _, rfl, ?_⟩
      refine wa_cons ?_
      refine we_ifP (en := eI) (va := (0 : Int)) (vb := (300 : Int)) ?_
      refine wt_cmp (nomark _) ?_
      refine we_var 3 rfl (by walk_at "vis") rfl ?_
      refine we_int ?_
      refine ⟨_, _, .inl rfl, .inl rfl, ?_⟩
      refine opw_eqI ?_
      refine ⟨_, rfl, ?_⟩
      refine ⟨fun _ => ?_, fun _ => ?_, ?_⟩
      · skip
        refine we_int ?_
        exact ⟨rfl, rfl, rfl⟩
      · skip
        refine we_globI rfl m_MAX_LENGTH ?_
        exact ⟨rfl, rfl, rfl⟩
      refine ⟨_, _, rfl, ?_⟩
      refine wa_nil ?_
      refine ⟨(x5.2, i7, if (decide (x5.1 = (0 : Int))) = true then (0 : Int) else (300 : Int)), rfl, ?_⟩
      refine ⟨_, rfl, ?_⟩
      exact ⟨rfl, rfl, rfl⟩
    refine ⟨fun hc => ?_, fun hc => ?_⟩
    · skip
      have h := (Out.iteb h).1 hc
      -- 38
      exact h.elim
    have h := (Out.iteb h).2 hc
    refine wb_nil ?_
    exact wb_nil ⟨(), (.eq (.eq (.eq (.no (.no (.no .nil)))))), rfl, h⟩
  -- 39
  refine wb_cons (ws_if ?_)
  refine wt_cmp (nomark _) ?_
  refine we_b1 (x := "len") (id := "len") rfl B.len bt_len ?_
  refine we_var 1 rfl (by walk_at "vis") rfl ?_
  refine ⟨_, .inl rfl, ?_⟩
  refine t_lenT (f := eI) marks1 ?_
  refine we_globI rfl m_MIN_MARKS ?_
  refine ⟨_, _, .inl rfl, .inl rfl, ?_⟩
  refine opw_lt ?_
  refine ⟨_, rfl, ?_⟩
  refine ⟨fun hc => ?_, fun hc => ?_⟩
  · skip
    have h := (Out.iteb h).1 hc
    -- 40
    exact h.elim
  have h := (Out.iteb h).2 hc
  refine wb_nil ?_
  -- 41
  refine wb_cons (ws_if ?_)
  refine wt_not ?_
  refine wt_val (fun _ => rfl) ?_
  refine we_cal tk c_is_number hr rfl ?_
  refine wa_cons ?_
  refine we_var 2 rfl (by walk_at "vis") rfl ?_
  refine ⟨_, _, rfl, ?_⟩
  refine wa_cons ?_
  refine we_int ?_
  refine ⟨_, _, rfl, ?_⟩
  refine wa_cons ?_
  refine we_globI rfl m_MAX_ERROR ?_
  refine ⟨_, _, rfl, ?_⟩
  refine wa_nil ?_
  refine ⟨(error2, (0 : Int), (9 : Int)), rfl, ?_⟩
  refine ⟨_, rfl, ?_⟩
  refine ⟨fun hc => ?_, fun hc => ?_⟩
  · skip
    have h := (Out.iteb h).1 hc
    -- 42
    exact h.elim
  have h := (Out.iteb h).2 hc
  refine wb_nil ?_
  exact wb_nil ⟨rfl, _, _, rfl, rfl, h⟩
theorem ok_Ruler_marks {f : Addr} {fd : FuncData} (F : Fun K "marks" "Ruler.marks" s_Ruler_marks f fd) (B : Bn mg) (cl_Ruler : Cl_Ruler K C_Ruler) : FnOk P w K mg base (L2.CX P w) 3 f fd ["self"] (spD K (FM cx (A := Rul) (R := List Int) (fun a => [(eRul C_Ruler) a]) (fun v => .sh ((eT eI) v)) (fun a => .ok (m_Ruler_marks a)))) := by
  refine def_ok F sc_Ruler_marks (fun ds G post px h => ?_) (fun cdv A outer s H E F0 T hr ds G post px h tk hp => ?_)
  · obtain ⟨_, rfl, _⟩ := h; rfl
  obtain ⟨self1, rfl, h⟩ := h
  unfold m_Ruler_marks at h
  try dsimp only at h
  have nd := sc_Ruler_marks.nd
  obtain ⟨q_Ruler_0, sl_Ruler_0⟩ := cl_Ruler.s0
  obtain ⟨q_Ruler_1, sl_Ruler_1⟩ := cl_Ruler.s1
  change WB _ _ [.sh ((eRul C_Ruler) self1)] _ _
  -- 48
  refine wb_cons (ws_ret ?_)
  refine we_fld 1 cl_Ruler.cls sl_Ruler_1 ?_
  refine we_var 0 rfl (by walk_at "vis") rfl ?_
  refine ⟨_, _, rfl, rfl, ?_⟩
  refine ⟨_, rfl, ?_⟩
  exact h
theorem ok_Ruler_length {f : Addr} {fd : FuncData} (F : Fun K "length" "Ruler.length" s_Ruler_length f fd) (B : Bn mg) (cl_Ruler : Cl_Ruler K C_Ruler) : FnOk P w K mg base (L2.CX P w) 3 f fd ["self"] (spD K (FM cx (A := Rul) (R := Int) (fun a => [(eRul C_Ruler) a]) (fun v => .sh (eI v)) (fun a => m_Ruler_length a))) := by
  refine def_ok F sc_Ruler_length (fun ds G post px h => ?_) (fun cdv A outer s H E F0 T hr ds G post px h tk hp => ?_)
  · obtain ⟨_, rfl, _⟩ := h; rfl
  obtain ⟨self1, rfl, h⟩ := h
  unfold m_Ruler_length at h
  try dsimp only at h
  have nd := sc_Ruler_length.nd
  obtain ⟨q_Ruler_0, sl_Ruler_0⟩ := cl_Ruler.s0
  obtain ⟨q_Ruler_1, sl_Ruler_1⟩ := cl_Ruler.s1
  change WB _ _ [.sh ((eRul C_Ruler) self1)] _ _
  -- 56
  refine wb_cons (ws_ret ?_)
  refine we_ix (fun _ _ => rfl) ?_
  refine we_fld 1 cl_Ruler.cls sl_Ruler_1 ?_
  refine we_var 0 rfl (by walk_at "vis") rfl ?_
  refine ⟨_, _, rfl, rfl, ?_⟩
  refine we_un rfl ?_
  refine we_int ?_
  refine ⟨_, rfl, ?_⟩
  obtain ⟨x2, hx2, h⟩ := Out.gt h
  refine ⟨_, _, .inl rfl, .inl rfl, ?_⟩
  refine t_ixT (f := eI) hx2 ?_
  refine ⟨_, rfl, ?_⟩
  exact h
theorem ok_Ruler_len {f : Addr} {fd : FuncData} (F : Fun K "__len__" "Ruler.__len__" s_Ruler_len f fd) (B : Bn mg) (cl_Ruler : Cl_Ruler K C_Ruler) : FnOk P w K mg base (L2.CX P w) 3 f fd ["self"] (spD K (FM cx (A := Rul) (R := Int) (fun a => [(eRul C_Ruler) a]) (fun v => .sh (eI v)) (fun a => .ok (m_Ruler___len a)))) := by
  refine def_ok F sc_Ruler_len (fun ds G post px h => ?_) (fun cdv A outer s H E F0 T hr ds G post px h tk hp => ?_)
  · obtain ⟨_, rfl, _⟩ := h; rfl
  obtain ⟨self1, rfl, h⟩ := h
  unfold m_Ruler___len at h
  try dsimp only at h
  have nd := sc_Ruler_len.nd
  obtain ⟨q_Ruler_0, sl_Ruler_0⟩ := cl_Ruler.s0
  obtain ⟨q_Ruler_1, sl_Ruler_1⟩ := cl_Ruler.s1
  change WB _ _ [.sh ((eRul C_Ruler) self1)] _ _
  -- 67
  refine wb_cons (ws_ret ?_)
  refine we_b1 (x := "len") (id := "len") rfl B.len bt_len ?_
  refine we_fld 1 cl_Ruler.cls sl_Ruler_1 ?_
  refine we_var 0 rfl (by walk_at "vis") rfl ?_
  refine ⟨_, _, rfl, rfl, ?_⟩
  refine ⟨_, .inl rfl, ?_⟩
  refine t_lenT (f := eI) self1.marks ?_
  refine ⟨_, rfl, ?_⟩
  exact h
theorem ok_spread_of {f : Addr} {fd : FuncData} (F : Fun K "spread_of" "spread_of" s_spread_of f fd) (B : Bn mg) : FnOk P w K mg base (L2.CX P w) 3 f fd ["marks"] (spD K (FM cx (A := List Int) (R := List Int) (fun a => [(eT eI) a]) (fun v => .fr ((eL eI) v)) (fun a => m_spread_of a))) := by
  refine def_ok F sc_spread_of (fun ds G post px h => ?_) (fun cdv A outer s H E F0 T hr ds G post px h tk hp => ?_)
  · obtain ⟨_, rfl, _⟩ := h; rfl
  obtain ⟨marks1, rfl, h⟩ := h
  unfold m_spread_of at h
  try dsimp only at h
  have nd := sc_spread_of.nd
  change WB _ _ [.sh ((eT eI) marks1), .no, .no, .no, .no] _ _
  -- 25
  refine wb_cons ?_
  refine Hold.h ?_
  refine ws_setH 1 nd rfl (by walk_at "vis") ?_
  refine we_lst ?_
  refine wa_nil ?_
  refine ⟨by decide, ?_⟩
  refine ⟨lt_ rfl, _, rfl, ?_⟩
  refine Hold.h ?_
  refine wb_letH h (fun found2 => [.sh ((eT eI) marks1), .own ((eL eI) found2), .no, .no, .no]) rfl fun found2 h => ?_
  -- 26
  refine Hold.h ?_
  refine wb_forOH (β := List Int) [2, 3] (σT := List Int) (fun s3 => [.sh ((eT eI) marks1), .own ((eL eI) s3), .no, .no, .no]) (fun s3 => G) (eP eI eI) hp rfl ?_
  refine ti_enumT (f := eI) rfl B.enumerate ?_
  refine we_var 0 rfl (by walk_at "vis") rfl ?_
  refine ⟨marks1, _, rfl, fun hl6 => ?_⟩
  refine ⟨(penum marks1), found2, _, _, _, _, rfl, (.eq (.eq (.no (.no (.no .nil))))), rfl, h, fun s3 x5 Q' h => ?_, fun s4 h => ?_⟩
  · skip
    refine wg_pair 2 3 rfl nd rfl rfl (by walk_at "vis") (by walk_at "vis") (by decide) (by decide) (lt_ rfl) (lt_ rfl) ?_
    change WB _ _ [.sh ((eT eI) marks1), .own ((eL eI) s3), .sh (eI x5.1), .sh (eI x5.2), .no] _ _
    -- 27
    refine wb_cons (ws_expr ?_)
    refine we_extendT (f := eI) ?_
    refine we_var 1 rfl (by walk_at "vis") rfl ?_
    refine ⟨_, s3, rfl, rfl, ?_⟩
    refine we_lcQ [("other", 4)] rfl nd (blkOk_by (by rfl)) (lc0_pre [("other", 4)] [.sh ((eT eI) marks1), .own ((eL eI) s3), .sh (eI x5.1), .sh (eI x5.2), .no] (en := eI) eI (fun (x8 : Int) => x8 - x5.2) ?_)
    refine Hold.h ?_
    refine ti_tupH (f := eI) ?_
    refine we_slice ?_
    refine we_var 0 rfl (by walk_at "vis") rfl ?_
    refine wo_some ?_
    refine we_bin ?_
    refine we_var 2 rfl (by walk_at "vis") rfl ?_
    refine we_int ?_
    refine ⟨_, _, .inl rfl, .inl rfl, ?_⟩
    refine opw_add ?_
    refine ⟨_, rfl, ?_⟩
    refine wo_none ?_
    refine ⟨_, .inl rfl, ?_⟩
    refine t_slT (f := eI) (xs := marks1) ?_
    refine ⟨(pcut marks1 (some (x5.1 + (1 : Int))) none), _, rfl, fun hl9 => ?_⟩
    refine ⟨(pcut marks1 (some (x5.1 + (1 : Int))) none), rfl, hl9, Wk.refl _, fun x8 => ?_, ?_⟩
    · skip
      rintro Y ⟨s1, H1, C1, cl, fp, rfl⟩
      refine wg_name 4 nd rfl (by walk_at "vis") (by decide) (lt_ rfl) ?_
      rintro Y ⟨s1, H1, C1, cl, fp, rfl⟩
      refine we_bin ?_
      refine we_var 4 rfl (by walk_at "vis") rfl ?_
      refine we_var 3 rfl (by walk_at "vis") rfl ?_
      refine ⟨_, _, .inl rfl, .inl rfl, ?_⟩
      refine opw_sub ?_
      exact ⟨_, rfl, Wk.refl _, rfl⟩
    obtain ⟨g10, h⟩ := Out.gd h
    refine ⟨((pcut marks1 (some (x5.1 + (1 : Int))) none).map (fun (x8 : Int) => x8 - x5.2)), _, s3, rfl, rfl, g10, ?_⟩
    refine Hold.h ?_
    refine wb_letH h (fun found11 => [.sh ((eT eI) marks1), .own ((eL eI) found11), .sh (eI x5.1), .sh (eI x5.2), .no]) rfl fun found11 h => ?_
    exact wb_nil ⟨found11, (.eq (.eq (.no (.no (.no .nil))))), rfl, h⟩
  -- 28
  refine wb_cons (ws_ret ?_)
  refine we_b1 (x := "sorted") (id := "sorted") rfl B.sorted bt_sorted ?_
  refine we_var 1 rfl (by walk_at "vis") rfl ?_
  refine ⟨_, .inl rfl, ?_⟩
  refine c_sorted (ns := s4) ?_
  refine ⟨_, rfl, ?_⟩
  exact h
theorem ok_spread_of_l {f : Addr} {fd : FuncData} (F : Fun K "spread_of" "spread_of" s_spread_of f fd) (B : Bn mg) : FnOk P w K mg base (L2.CX P w) 3 f fd ["marks"] (spD K (FM cx (A := List Int) (R := List Int) (fun a => [(eL eI) a]) (fun v => .fr ((eL eI) v)) (fun a => m_spread_of_l a))) := by
  refine def_ok F sc_spread_of (fun ds G post px h => ?_) (fun cdv A outer s H E F0 T hr ds G post px h tk hp => ?_)
  · obtain ⟨_, rfl, _⟩ := h; rfl
  obtain ⟨marks1, rfl, h⟩ := h
  unfold m_spread_of_l at h
  try dsimp only at h
  have nd := sc_spread_of.nd
  change WB _ _ [.sh ((eL eI) marks1), .no, .no, .no, .no] _ _
  -- 25
  refine wb_cons ?_
  refine Hold.h ?_
  refine ws_setH 1 nd rfl (by walk_at "vis") ?_
  refine we_lst ?_
  refine wa_nil ?_
  refine ⟨by decide, ?_⟩
  refine ⟨lt_ rfl, _, rfl, ?_⟩
  refine Hold.h ?_
  refine wb_letH h (fun found2 => [.sh ((eL eI) marks1), .own ((eL eI) found2), .no, .no, .no]) rfl fun found2 h => ?_
  -- 26
  refine Hold.h ?_
  refine wb_forOH (β := List Int) [2, 3] (σT := List Int) (fun s3 => [.sh ((eL eI) marks1), .own ((eL eI) s3), .no, .no, .no]) (fun s3 => G) (eP eI eI) hp rfl ?_
  refine ti_enumL (f := eI) rfl B.enumerate ?_
  refine we_var 0 rfl (by walk_at "vis") rfl ?_
  refine ⟨marks1, _, rfl, fun hl6 => ?_⟩
  refine ⟨(penum marks1), found2, _, _, _, _, rfl, (.eq (.eq (.no (.no (.no .nil))))), rfl, h, fun s3 x5 Q' h => ?_, fun s4 h => ?_⟩
  · skip
    refine wg_pair 2 3 rfl nd rfl rfl (by walk_at "vis") (by walk_at "vis") (by decide) (by decide) (lt_ rfl) (lt_ rfl) ?_
    change WB _ _ [.sh ((eL eI) marks1), .own ((eL eI) s3), .sh (eI x5.1), .sh (eI x5.2), .no] _ _
    -- 27
    refine wb_cons (ws_expr ?_)
    refine we_extendT (f := eI) ?_
    refine we_var 1 rfl (by walk_at "vis") rfl ?_
    refine ⟨_, s3, rfl, rfl, ?_⟩
    refine we_lcQ [("other", 4)] rfl nd (blkOk_by (by rfl)) (lc0_pre [("other", 4)] [.sh ((eL eI) marks1), .own ((eL eI) s3), .sh (eI x5.1), .sh (eI x5.2), .no] (en := eI) eI (fun (x8 : Int) => x8 - x5.2) ?_)
    refine ti_lst (f := eI) ?_
    refine we_slice ?_
    refine we_var 0 rfl (by walk_at "vis") rfl ?_
    refine wo_some ?_
    refine we_bin ?_
    refine we_var 2 rfl (by walk_at "vis") rfl ?_
    refine we_int ?_
    refine ⟨_, _, .inl rfl, .inl rfl, ?_⟩
    refine opw_add ?_
    refine ⟨_, rfl, ?_⟩
    refine wo_none ?_
    refine ⟨_, .inl rfl, ?_⟩
    refine t_sl (f := eI) (xs := marks1) ?_
    refine ⟨(pcut marks1 (some (x5.1 + (1 : Int))) none), _, rfl, fun hl9 => ?_⟩
    refine ⟨(pcut marks1 (some (x5.1 + (1 : Int))) none), rfl, hl9, Wk.refl _, fun x8 => ?_, ?_⟩
    · skip
      rintro Y ⟨s1, H1, C1, cl, fp, rfl⟩
      refine wg_name 4 nd rfl (by walk_at "vis") (by decide) (lt_ rfl) ?_
      rintro Y ⟨s1, H1, C1, cl, fp, rfl⟩
      refine we_bin ?_
      refine we_var 4 rfl (by walk_at "vis") rfl ?_
      refine we_var 3 rfl (by walk_at "vis") rfl ?_
      refine ⟨_, _, .inl rfl, .inl rfl, ?_⟩
      refine opw_sub ?_
      exact ⟨_, rfl, Wk.refl _, rfl⟩
    obtain ⟨g10, h⟩ := Out.gd h
    refine ⟨((pcut marks1 (some (x5.1 + (1 : Int))) none).map (fun (x8 : Int) => x8 - x5.2)), _, s3, rfl, rfl, g10, ?_⟩
    refine Hold.h ?_
    refine wb_letH h (fun found11 => [.sh ((eL eI) marks1), .own ((eL eI) found11), .sh (eI x5.1), .sh (eI x5.2), .no]) rfl fun found11 h => ?_
    exact wb_nil ⟨found11, (.eq (.eq (.no (.no (.no .nil))))), rfl, h⟩
  -- 28
  refine wb_cons (ws_ret ?_)
  refine we_b1 (x := "sorted") (id := "sorted") rfl B.sorted bt_sorted ?_
  refine we_var 1 rfl (by walk_at "vis") rfl ?_
  refine ⟨_, .inl rfl, ?_⟩
  refine c_sorted (ns := s4) ?_
  refine ⟨_, rfl, ?_⟩
  exact h
theorem ok_mirrored {f : Addr} {fd : FuncData} (F : Fun K "mirrored" "mirrored" s_mirrored f fd) (B : Bn mg) : FnOk P w K mg base (L2.CX P w) 3 f fd ["marks"] (spD K (FM cx (A := List Int) (R := List Int) (fun a => [(eT eI) a]) (fun v => .sh ((eT eI) v)) (fun a => m_mirrored a))) := by
  refine def_ok F sc_mirrored (fun ds G post px h => ?_) (fun cdv A outer s H E F0 T hr ds G post px h tk hp => ?_)
  · obtain ⟨_, rfl, _⟩ := h; rfl
  obtain ⟨marks1, rfl, h⟩ := h
  unfold m_mirrored at h
  try dsimp only at h
  have nd := sc_mirrored.nd
  change WB _ _ [.sh ((eT eI) marks1), .no] _ _
  -- 30
  refine wb_cons (ws_ret ?_)
  refine we_t1 (x := "tuple") (id := "tuple") rfl B.tuple bt_tuple ?_
  refine we_lcQ [("mark", 1)] rfl nd (blkOk_by (by rfl)) (lcS_preP (γ := List Int) [("mark", 1)] [.sh ((eT eI) marks1), .no] (fun _ : Unit => G) (en := eI) eI ?_)
  refine ti_revL (f := eI) rfl B.reversed ?_
  refine we_t1 (x := "list") (id := "list") rfl B.list bt_list ?_
  refine we_var 0 rfl (by walk_at "vis") rfl ?_
  refine ⟨_, .inl rfl, ?_⟩
  refine c_listT ?_
  refine ⟨marks1, _, rfl, fun hl3 => ?_⟩
  refine ⟨((marks1).reverse), (), _, _, _, _, rfl, hl3, Wk.refl _, rfl, h, fun s4 x2 Q' h => ?_, fun l5 h => ?_⟩
  · skip
    rintro Y ⟨s1, H1, C1, cl, fp, rfl⟩
    refine wg_name 1 nd rfl (by walk_at "vis") (by decide) (lt_ rfl) ?_
    rintro Y ⟨s1, H1, C1, cl, fp, rfl⟩
    refine we_bin ?_
    refine we_ix (fun _ _ => rfl) ?_
    refine we_var 0 rfl (by walk_at "vis") rfl ?_
    refine we_un rfl ?_
    refine we_int ?_
    refine ⟨_, rfl, ?_⟩
    obtain ⟨x6, hx6, h⟩ := Out.gt h
    refine ⟨_, _, .inl rfl, .inl rfl, ?_⟩
    refine t_ixT (f := eI) hx6 ?_
    refine we_var 1 rfl (by walk_at "vis") rfl ?_
    refine ⟨_, _, .inl rfl, .inl rfl, ?_⟩
    refine opw_sub ?_
    exact ⟨(x6 - x2), (), _, rfl, Wk.refl _, rfl, h⟩
  refine ⟨_, .inl rfl, ?_⟩
  refine c_tuple ?_
  refine ⟨_, rfl, ?_⟩
  exact h
theorem ok_Ruler_spread {f : Addr} {fd : FuncData} (F : Fun K "spread" "Ruler.spread" s_Ruler_spread f fd) (B : Bn mg) (c_spread_of : Cal P w K mg base "spread_of" 3 ["marks"] (FM cx (A := List Int) (R := List Int) (fun a => [(eT eI) a]) (fun v => .fr ((eL eI) v)) (fun a => m_spread_of a))) (cl_Ruler : Cl_Ruler K C_Ruler) : FnOk P w K mg base (L2.CX P w) 5 f fd ["self"] (spD K (FM cx (A := Rul) (R := List Int) (fun a => [(eRul C_Ruler) a]) (fun v => .sh ((eT eI) v)) (fun a => m_Ruler_spread a))) := by
  refine def_ok F sc_Ruler_spread (fun ds G post px h => ?_) (fun cdv A outer s H E F0 T hr ds G post px h tk hp => ?_)
  · obtain ⟨_, rfl, _⟩ := h; rfl
  obtain ⟨self1, rfl, h⟩ := h
  unfold m_Ruler_spread at h
  try dsimp only at h
  have nd := sc_Ruler_spread.nd
  obtain ⟨q_Ruler_0, sl_Ruler_0⟩ := cl_Ruler.s0
  obtain ⟨q_Ruler_1, sl_Ruler_1⟩ := cl_Ruler.s1
  change WB _ _ [.sh ((eRul C_Ruler) self1)] _ _
  -- 60
  refine wb_cons (ws_ret ?_)
  refine we_t1 (x := "tuple") (id := "tuple") rfl B.tuple bt_tuple ?_
  refine we_cal tk c_spread_of hr rfl ?_
  refine wa_cons ?_
  refine we_fld 1 cl_Ruler.cls sl_Ruler_1 ?_
  refine we_var 0 rfl (by walk_at "vis") rfl ?_
  refine ⟨_, _, rfl, rfl, ?_⟩
  refine ⟨_, _, rfl, ?_⟩
  refine wa_nil ?_
  refine ⟨self1.marks, rfl, (Out.sb h).imp (fun r2 h => ?_) (fun _ he => he)⟩
  refine ⟨_, .inl rfl, ?_⟩
  refine c_tuple ?_
  refine ⟨_, rfl, ?_⟩
  exact h
theorem ok_Ruler_spans {f : Addr} {fd : FuncData} (F : Fun K "spans" "Ruler.spans" s_Ruler_spans f fd) (B : Bn mg) (c_spread_of : Cal P w K mg base "spread_of" 3 ["marks"] (FM cx (A := List Int) (R := List Int) (fun a => [(eT eI) a]) (fun v => .fr ((eL eI) v)) (fun a => m_spread_of a))) (cl_Ruler : Cl_Ruler K C_Ruler) : FnOk P w K mg base (L2.CX P w) 5 f fd ["self"] (spD K (FM cx (A := Rul) (R := List Int) (fun a => [(eRul C_Ruler) a]) (fun v => .sh ((eT eI) v)) (fun a => m_Ruler_spans a))) := by
  refine def_ok F sc_Ruler_spans (fun ds G post px h => ?_) (fun cdv A outer s H E F0 T hr ds G post px h tk hp => ?_)
  · obtain ⟨_, rfl, _⟩ := h; rfl
  obtain ⟨self1, rfl, h⟩ := h
  unfold m_Ruler_spans at h
  try dsimp only at h
  have nd := sc_Ruler_spans.nd
  obtain ⟨q_Ruler_0, sl_Ruler_0⟩ := cl_Ruler.s0
  obtain ⟨q_Ruler_1, sl_Ruler_1⟩ := cl_Ruler.s1
  change WB _ _ [.sh ((eRul C_Ruler) self1), .no] _ _
  -- 64
  refine wb_cons (ws_ret ?_)
  refine we_t1 (x := "tuple") (id := "tuple") rfl B.tuple bt_tuple ?_
  refine we_b1 (x := "sorted") (id := "sorted") rfl B.sorted bt_sorted ?_
  refine we_lock ?_
  refine we_dc0 [("span", 1)] [.sh ((eRul C_Ruler) self1), .no] (en := eI) kI eB kI_inj (fun (x2 : Int) => (x2, true)) rfl nd (blkOk_by (by rfl)) ?_
  refine ti_lst (f := eI) ?_
  refine we_cal tk c_spread_of hr rfl ?_
  refine wa_cons ?_
  refine we_fld 1 cl_Ruler.cls sl_Ruler_1 ?_
  refine we_var 0 rfl (by walk_at "vis") rfl ?_
  refine ⟨_, _, rfl, rfl, ?_⟩
  refine ⟨_, _, rfl, ?_⟩
  refine wa_nil ?_
  refine ⟨self1.marks, rfl, (Out.sb h).imp (fun r3 h => ?_) (fun _ he => he)⟩
  refine ⟨r3, _, rfl, fun hl4 => ?_⟩
  refine ⟨r3, rfl, hl4, Wk.refl _, fun x2 => ?_, ?_⟩
  · skip
    rintro Y ⟨s1, H1, C1, cl, fp, rfl⟩
    refine wg_name 1 nd rfl (by walk_at "vis") (by decide) (lt_ rfl) ?_
    rintro Y ⟨s1, H1, C1, cl, fp, rfl⟩
    refine we_var 1 rfl (by walk_at "vis") rfl ?_
    refine ⟨rfl, ?_⟩
    rintro Y ⟨s1, H1, C1, cl, fp, rfl⟩
    refine we_bl ?_
    exact ⟨_, rfl, Wk.refl _, rfl⟩
  refine ⟨_, _, rfl, ?_⟩
  refine ⟨_, .inl rfl, ?_⟩
  refine t_sortedD (f := eB) (dmk (r3.map (fun (x2 : Int) => (x2, true)))) rfl ?_
  refine ⟨_, .inl rfl, ?_⟩
  refine c_tuple ?_
  refine ⟨_, rfl, ?_⟩
  exact h
theorem ok_Ruler_turned {f : Addr} {fd : FuncData} (F : Fun K "turned" "Ruler.turned" s_Ruler_turned f fd) (B : Bn mg) (c_mirrored : Cal P w K mg base "mirrored" 3 ["marks"] (FM cx (A := List Int) (R := List Int) (fun a => [(eT eI) a]) (fun v => .sh ((eT eI) v)) (fun a => m_mirrored a))) (cl_Ruler : Cl_Ruler K C_Ruler) (k_Ruler : MakeD P w K mg base "Ruler" C_Ruler 5 ["self", "marks", "error"] (FMI cx (A := (List Int) × Int) (R := Rul) (fun a => [(eT eI) a.1, eI a.2]) (fun r => [.int r.error, .tup (r.marks.map D.int)]) (fun a => mk_Ruler a.1 a.2))) : FnOk P w K mg base (L2.CX P w) 8 f fd ["self"] (spD K (FM cx (A := Rul) (R := Rul) (fun a => [(eRul C_Ruler) a]) (fun v => .sh ((eRul C_Ruler) v)) (fun a => m_Ruler_turned a))) := by
  refine def_ok F sc_Ruler_turned (fun ds G post px h => ?_) (fun cdv A outer s H E F0 T hr ds G post px h tk hp => ?_)
  · obtain ⟨_, rfl, _⟩ := h; rfl
  obtain ⟨self1, rfl, h⟩ := h
  unfold m_Ruler_turned at h
  try dsimp only at h
  have nd := sc_Ruler_turned.nd
  obtain ⟨q_Ruler_0, sl_Ruler_0⟩ := cl_Ruler.s0
  obtain ⟨q_Ruler_1, sl_Ruler_1⟩ := cl_Ruler.s1
  change WB _ _ [.sh ((eRul C_Ruler) self1)] _ _
  -- 73
  refine wb_cons (ws_ret ?_)
  refine we_make tk k_Ruler hr rfl ?_
  refine wa_cons ?_
  refine we_cal tk c_mirrored hr rfl ?_
  refine wa_cons ?_
  refine we_fld 1 cl_Ruler.cls sl_Ruler_1 ?_
  refine we_var 0 rfl (by walk_at "vis") rfl ?_
  refine ⟨_, _, rfl, rfl, ?_⟩
  refine ⟨_, _, rfl, ?_⟩
  refine wa_nil ?_
  refine ⟨self1.marks, rfl, (Out.sb h).imp (fun r2 h => ?_) (fun _ he => he)⟩
  refine ⟨_, _, rfl, ?_⟩
  refine wa_cons ?_
  refine we_fld 0 cl_Ruler.cls sl_Ruler_0 ?_
  refine we_var 0 rfl (by walk_at "vis") rfl ?_
  refine ⟨_, _, rfl, rfl, ?_⟩
  refine ⟨_, _, rfl, ?_⟩
  refine wa_nil ?_
  refine ⟨(r2, self1.error), rfl, (Out.sb h).imp (fun r3 h => ?_) (fun _ he => he)⟩
  refine ⟨_, rfl, ?_⟩
  exact h
theorem ok_tuples_of {f : Addr} {fd : FuncData} (F : Fun K "tuples_of" "tuples_of" s_tuples_of f fd) (B : Bn mg) : FnOk P w K mg base (L2.CX P w) 3 f fd ["values", "size"] (spD K (FM cx (A := (List Int) × Int) (R := List (List Int)) (fun a => [(eL eI) a.1, eI a.2]) (fun v => .sh ((eL (eT eI)) v)) (fun a => m_tuples_of a.1 a.2))) := by
  refine def_ok F sc_tuples_of (fun ds G post px h => ?_) (fun cdv A outer s H E F0 T hr ds G post px h tk hp => ?_)
  · obtain ⟨_, rfl, _⟩ := h; rfl
  obtain ⟨⟨values1, size2⟩, rfl, h⟩ := h
  unfold m_tuples_of at h
  try dsimp only at h
  have nd := sc_tuples_of.nd
  change WB _ _ [.sh ((eL eI) values1), .sh (eI size2), .no, .no, .no, .no, .no] _ _
  -- 118
  refine wb_cons ?_
  refine Hold.h ?_
  refine ws_setH 2 nd rfl (by walk_at "vis") ?_
  refine we_lst ?_
  refine wa_cons ?_
  refine we_tup ?_
  refine wa_nil ?_
  refine ⟨by decide, ?_⟩
  refine ⟨_, _, rfl, ?_⟩
  refine wa_nil ?_
  refine ⟨lt_ rfl, ?_⟩
  refine ⟨lt_ rfl, _, rfl, ?_⟩
  refine Hold.h ?_
  refine wb_letH h (fun found3 => [.sh ((eL eI) values1), .sh (eI size2), .own ((eL (eT eI)) found3), .no, .no, .no, .no]) rfl fun found3 h => ?_
  -- 119
  refine wb_frz 2 rfl rfl ?_
  change WB _ _ [.sh ((eL eI) values1), .sh (eI size2), .sh ((eL (eT eI)) found3), .no, .no, .no, .no] _ _
  refine Hold.h ?_
  refine wb_forOH (β := List (List Int)) [3] (σT := List (List Int)) (fun s4 => [.sh ((eL eI) values1), .sh (eI size2), .sh ((eL (eT eI)) s4), .no, .no, .no, .no]) (fun s4 => G) eI hp rfl ?_
  refine wi_rng1 rfl B.range ?_
  refine we_var 1 rfl (by walk_at "vis") rfl ?_
  obtain ⟨g7, h⟩ := Out.gd h
  refine ⟨size2, rfl, g7, ?_⟩
  refine ⟨(rgI 0 size2), found3, _, _, _, _, rfl, (.eq (.eq (.eq (.no (.no (.no (.no .nil))))))), rfl, h, fun s4 x6 Q' h => ?_, fun s5 h => ?_⟩
  · skip
    refine wg_name 3 nd rfl (by walk_at "vis") (by decide) (lt_ rfl) ?_
    change WB _ _ [.sh ((eL eI) values1), .sh (eI size2), .sh ((eL (eT eI)) s4), .sh (eI x6), .no, .no, .no] _ _
    -- 120
    refine wb_cons ?_
    refine Hold.h ?_
    refine ws_setH 4 nd rfl (by walk_at "vis") ?_
    refine we_lst ?_
    refine wa_nil ?_
    refine ⟨by decide, ?_⟩
    refine ⟨lt_ rfl, _, rfl, ?_⟩
    refine Hold.h ?_
    refine wb_letH h (fun longer8 => [.sh ((eL eI) values1), .sh (eI size2), .sh ((eL (eT eI)) s4), .sh (eI x6), .own ((eL (eT eI)) longer8), .no, .no]) rfl fun longer8 h => ?_
    -- 121
    refine Hold.h ?_
    refine wb_forOH (β := (List (List Int))) [5] (σT := List (List Int)) (fun s9 => [.sh ((eL eI) values1), .sh (eI size2), .sh ((eL (eT eI)) s4), .sh (eI x6), .own ((eL (eT eI)) s9), .no, .no]) (fun s9 => G) (eT eI) hp rfl ?_
    refine ti_lst (f := (eT eI)) ?_
    refine we_var 2 rfl (by walk_at "vis") rfl ?_
    refine ⟨s4, _, rfl, fun hl12 => ?_⟩
    refine ⟨s4, longer8, _, _, _, _, rfl, (.eq (.eq (.eq (.eq (.eq (.no (.no .nil))))))), rfl, h, fun s9 x11 Q' h => ?_, fun s10 h => ?_⟩
    · skip
      refine wg_name 5 nd rfl (by walk_at "vis") (by decide) (lt_ rfl) ?_
      change WB _ _ [.sh ((eL eI) values1), .sh (eI size2), .sh ((eL (eT eI)) s4), .sh (eI x6), .own ((eL (eT eI)) s9), .sh ((eT eI) x11), .no] _ _
      -- 122
      refine wb_cons (ws_expr ?_)
      refine we_extendT (f := (eT eI)) ?_
      refine we_var 4 rfl (by walk_at "vis") rfl ?_
      refine ⟨_, s9, rfl, rfl, ?_⟩
      refine we_lcQ [("value", 6)] rfl nd (blkOk_by (by rfl)) (lcS_preP (γ := (List (List Int))) [("value", 6)] [.sh ((eL eI) values1), .sh (eI size2), .sh ((eL (eT eI)) s4), .sh (eI x6), .own ((eL (eT eI)) s9), .sh ((eT eI) x11), .no] (fun _ : Unit => G) (en := eI) (eT eI) ?_)
      refine ti_lst (f := eI) ?_
      refine we_var 0 rfl (by walk_at "vis") rfl ?_
      refine ⟨values1, _, rfl, fun hl15 => ?_⟩
      refine ⟨values1, (), _, _, _, _, rfl, hl15, Wk.refl _, rfl, h, fun s16 x14 Q' h => ?_, fun l17 h => ?_⟩
      · skip
        rintro Y ⟨s1, H1, C1, cl, fp, rfl⟩
        refine wg_name 6 nd rfl (by walk_at "vis") (by decide) (lt_ rfl) ?_
        rintro Y ⟨s1, H1, C1, cl, fp, rfl⟩
        refine wt_w ?_
        refine ww_orN ?_
        refine wt_cmp (nomark _) ?_
        refine we_var 5 rfl (by walk_at "vis") rfl ?_
        refine we_tup ?_
        refine wa_nil ?_
        refine ⟨by decide, ?_⟩
        refine ⟨_, _, .inl rfl, .inl rfl, ?_⟩
        refine opw_eqC (eqc_tup eqc_int) hr.units x11 ([] : List Int) ?_
        refine ⟨_, rfl, ?_⟩
        refine ⟨_, _, _, _, _, h, fun _ Q' h => ?_, fun c18 h => ?_⟩
        · skip
          refine ww_or1 ?_
          refine wt_cmp (nomark _) ?_
          refine we_var 6 rfl (by walk_at "vis") rfl ?_
          refine we_ix (fun _ _ => rfl) ?_
          refine we_var 5 rfl (by walk_at "vis") rfl ?_
          refine we_un rfl ?_
          refine we_int ?_
          refine ⟨_, rfl, ?_⟩
          obtain ⟨x19, hx19, h⟩ := Out.gt h
          refine ⟨_, _, .inl rfl, .inl rfl, ?_⟩
          refine t_ixT (f := eI) hx19 ?_
          refine ⟨_, _, .inl rfl, .inl rfl, ?_⟩
          refine opw_gt ?_
          refine ⟨_, rfl, ?_⟩
          exact ⟨rfl, rfl, h⟩
        refine ⟨fun hc => ?_, fun hc => ?_⟩
        · skip
          have h := (Out.iteb h).1 hc
          rintro Y ⟨s1, H1, C1, cl, fp, rfl⟩
          refine we_bin ?_
          refine we_var 5 rfl (by walk_at "vis") rfl ?_
          refine we_tup ?_
          refine wa_cons ?_
          refine we_var 6 rfl (by walk_at "vis") rfl ?_
          refine ⟨_, _, rfl, ?_⟩
          refine wa_nil ?_
          refine ⟨lt_ rfl, ?_⟩
          obtain ⟨g20, h⟩ := Out.gd h
          refine ⟨_, _, .inl rfl, .inl rfl, ?_⟩
          refine t_catT (f := eI) x11 [x14] g20 ?_
          exact ⟨(x11 ++ [x14]), (), _, rfl, Wk.refl _, rfl, h⟩
        have h := (Out.iteb h).2 hc
        exact ⟨(), Wk.refl _, rfl, h⟩
      obtain ⟨g21, h⟩ := Out.gd h
      refine ⟨l17.1, _, s9, rfl, rfl, g21, ?_⟩
      refine Hold.h ?_
      refine wb_letH h (fun longer22 => [.sh ((eL eI) values1), .sh (eI size2), .sh ((eL (eT eI)) s4), .sh (eI x6), .own ((eL (eT eI)) longer22), .sh ((eT eI) x11), .no]) rfl fun longer22 h => ?_
      exact wb_nil ⟨longer22, (.eq (.eq (.eq (.eq (.eq (.no (.no .nil))))))), rfl, h⟩
    -- 123
    refine wb_cons ?_
    refine Hold.h ?_
    refine ws_setH 2 nd rfl (by walk_at "vis") ?_
    refine we_frz ?_
    refine we_var 4 rfl (by walk_at "vis") rfl ?_
    refine ⟨_, _, rfl, ?_⟩
    refine ⟨lt_ rfl, _, rfl, ?_⟩
    change WB _ _ [.sh ((eL eI) values1), .sh (eI size2), .sh ((eL (eT eI)) s10), .sh (eI x6), .sh ((eL (eT eI)) s10), .no, .no] _ _
    exact wb_nil ⟨s10, (.eq (.eq (.eq (.no (.no (.no (.no .nil))))))), rfl, h⟩
  -- 124
  refine wb_cons (ws_ret ?_)
  refine we_var 2 rfl (by walk_at "vis") rfl ?_
  refine ⟨_, rfl, ?_⟩
  exact h
theorem ok_spans_with {f : Addr} {fd : FuncData} (F : Fun K "spans_with" "spans_with" s_spans_with f fd) (B : Bn mg) (c_spread_of_l : Cal P w K mg base "spread_of" 3 ["marks"] (FM cx (A := List Int) (R := List Int) (fun a => [(eL eI) a]) (fun v => .fr ((eL eI) v)) (fun a => m_spread_of_l a))) : FnOk P w K mg base (L2.CX P w) 5 f fd ["marks", "more"] (spD K (FM cx (A := (List Int) × (List Int)) (R := List (Int × Bool)) (fun a => [(eT eI) a.1, (eL eI) a.2]) (fun v => .fr ((eD kI eB) v)) (fun a => m_spans_with a.1 a.2))) := by
  refine def_ok F sc_spans_with (fun ds G post px h => ?_) (fun cdv A outer s H E F0 T hr ds G post px h tk hp => ?_)
  · obtain ⟨_, rfl, _⟩ := h; rfl
  obtain ⟨⟨marks1, more2⟩, rfl, h⟩ := h
  unfold m_spans_with at h
  try dsimp only at h
  have nd := sc_spans_with.nd
  change WB _ _ [.sh ((eT eI) marks1), .sh ((eL eI) more2), .no] _ _
  -- 108
  refine wb_cons (ws_ret ?_)
  refine we_dc0 [("span", 2)] [.sh ((eT eI) marks1), .sh ((eL eI) more2), .no] (en := eI) kI eB kI_inj (fun (x3 : Int) => (x3, true)) rfl nd (blkOk_by (by rfl)) ?_
  refine ti_lst (f := eI) ?_
  refine we_cal tk c_spread_of_l hr rfl ?_
  refine wa_cons ?_
  refine we_b1 (x := "sorted") (id := "sorted") rfl B.sorted bt_sorted ?_
  refine we_lstS (f := eI) ?_
  refine wa_star ?_
  refine we_var 0 rfl (by walk_at "vis") rfl ?_
  refine ⟨_, _, _, rfl, .inl rfl, ?_⟩
  refine wa_star ?_
  refine we_var 1 rfl (by walk_at "vis") rfl ?_
  refine ⟨_, _, _, rfl, .inr rfl, ?_⟩
  refine wa_nil ?_
  obtain ⟨g4, h⟩ := Out.gd h
  refine ⟨(marks1 ++ more2), by simp, g4, ?_⟩
  refine ⟨_, .inl rfl, ?_⟩
  refine c_sorted (ns := (marks1 ++ more2)) ?_
  refine ⟨_, _, rfl, ?_⟩
  refine wa_nil ?_
  refine ⟨isort (marks1 ++ more2), rfl, (Out.sb h).imp (fun r5 h => ?_) (fun _ he => he)⟩
  refine ⟨r5, _, rfl, fun hl6 => ?_⟩
  refine ⟨r5, rfl, hl6, Wk.refl _, fun x3 => ?_, ?_⟩
  · skip
    rintro Y ⟨s1, H1, C1, cl, fp, rfl⟩
    refine wg_name 2 nd rfl (by walk_at "vis") (by decide) (lt_ rfl) ?_
    rintro Y ⟨s1, H1, C1, cl, fp, rfl⟩
    refine we_var 2 rfl (by walk_at "vis") rfl ?_
    refine ⟨rfl, ?_⟩
    rintro Y ⟨s1, H1, C1, cl, fp, rfl⟩
    refine we_bl ?_
    exact ⟨_, rfl, Wk.refl _, rfl⟩
  refine ⟨_, rfl, ?_⟩
  exact h
theorem ok_spans_with_t {f : Addr} {fd : FuncData} (F : Fun K "spans_with" "spans_with" s_spans_with f fd) (B : Bn mg) (c_spread_of_l : Cal P w K mg base "spread_of" 3 ["marks"] (FM cx (A := List Int) (R := List Int) (fun a => [(eL eI) a]) (fun v => .fr ((eL eI) v)) (fun a => m_spread_of_l a))) : FnOk P w K mg base (L2.CX P w) 5 f fd ["marks", "more"] (spD K (FM cx (A := (List Int) × (List Int)) (R := List (Int × Bool)) (fun a => [(eT eI) a.1, (eT eI) a.2]) (fun v => .fr ((eD kI eB) v)) (fun a => m_spans_with_t a.1 a.2))) := by
  refine def_ok F sc_spans_with (fun ds G post px h => ?_) (fun cdv A outer s H E F0 T hr ds G post px h tk hp => ?_)
  · obtain ⟨_, rfl, _⟩ := h; rfl
  obtain ⟨⟨marks1, more2⟩, rfl, h⟩ := h
  unfold m_spans_with_t at h
  try dsimp only at h
  have nd := sc_spans_with.nd
  change WB _ _ [.sh ((eT eI) marks1), .sh ((eT eI) more2), .no] _ _
  -- 108
  refine wb_cons (ws_ret ?_)
  refine we_dc0 [("span", 2)] [.sh ((eT eI) marks1), .sh ((eT eI) more2), .no] (en := eI) kI eB kI_inj (fun (x3 : Int) => (x3, true)) rfl nd (blkOk_by (by rfl)) ?_
  refine ti_lst (f := eI) ?_
  refine we_cal tk c_spread_of_l hr rfl ?_
  refine wa_cons ?_
  refine we_b1 (x := "sorted") (id := "sorted") rfl B.sorted bt_sorted ?_
  refine we_lstS (f := eI) ?_
  refine wa_star ?_
  refine we_var 0 rfl (by walk_at "vis") rfl ?_
  refine ⟨_, _, _, rfl, .inl rfl, ?_⟩
  refine wa_star ?_
  refine we_var 1 rfl (by walk_at "vis") rfl ?_
  refine ⟨_, _, _, rfl, .inl rfl, ?_⟩
  refine wa_nil ?_
  obtain ⟨g4, h⟩ := Out.gd h
  refine ⟨(marks1 ++ more2), by simp, g4, ?_⟩
  refine ⟨_, .inl rfl, ?_⟩
  refine c_sorted (ns := (marks1 ++ more2)) ?_
  refine ⟨_, _, rfl, ?_⟩
  refine wa_nil ?_
  refine ⟨isort (marks1 ++ more2), rfl, (Out.sb h).imp (fun r5 h => ?_) (fun _ he => he)⟩
  refine ⟨r5, _, rfl, fun hl6 => ?_⟩
  refine ⟨r5, rfl, hl6, Wk.refl _, fun x3 => ?_, ?_⟩
  · skip
    rintro Y ⟨s1, H1, C1, cl, fp, rfl⟩
    refine wg_name 2 nd rfl (by walk_at "vis") (by decide) (lt_ rfl) ?_
    rintro Y ⟨s1, H1, C1, cl, fp, rfl⟩
    refine we_var 2 rfl (by walk_at "vis") rfl ?_
    refine ⟨rfl, ?_⟩
    rintro Y ⟨s1, H1, C1, cl, fp, rfl⟩
    refine we_bl ?_
    exact ⟨_, rfl, Wk.refl _, rfl⟩
  refine ⟨_, rfl, ?_⟩
  exact h
theorem ok_free_marks {f : Addr} {fd : FuncData} (F : Fun K "free_marks" "free_marks" s_free_marks f fd) (B : Bn mg) (cl_Ruler : Cl_Ruler K C_Ruler) (p_Ruler_length : PropD P w K mg base C_Ruler "length" 3 (FM cx (A := Rul) (R := Int) (fun a => [(eRul C_Ruler) a]) (fun v => .sh (eI v)) (fun a => m_Ruler_length a))) (p_Ruler_marks : PropD P w K mg base C_Ruler "marks" 3 (FM cx (A := Rul) (R := List Int) (fun a => [(eRul C_Ruler) a]) (fun v => .sh ((eT eI) v)) (fun a => .ok (m_Ruler_marks a)))) : FnOk P w K mg base (L2.CX P w) 6 f fd ["ruler"] (spD K (FM cx (A := Rul) (R := List Int) (fun a => [(eRul C_Ruler) a]) (fun v => .fr ((eL eI) v)) (fun a => m_free_marks a))) := by
  refine def_ok F sc_free_marks (fun ds G post px h => ?_) (fun cdv A outer s H E F0 T hr ds G post px h tk hp => ?_)
  · obtain ⟨_, rfl, _⟩ := h; rfl
  obtain ⟨ruler1, rfl, h⟩ := h
  unfold m_free_marks at h
  try dsimp only at h
  have nd := sc_free_marks.nd
  obtain ⟨q_Ruler_0, sl_Ruler_0⟩ := cl_Ruler.s0
  obtain ⟨q_Ruler_1, sl_Ruler_1⟩ := cl_Ruler.s1
  change WB _ _ [.sh ((eRul C_Ruler) ruler1), .no] _ _
  -- 110
  refine wb_cons (ws_ret ?_)
  refine we_lcQ [("mark", 1)] rfl nd (blkOk_by (by rfl)) (lc1_pre [("mark", 1)] [.sh ((eRul C_Ruler) ruler1), .no] (en := eI) eI (fun x2 => !decide (x2 ∈ (m_Ruler_marks ruler1))) (fun (x2 : Int) => x2) ?_)
  refine wi_rng2 rfl B.range ?_
  refine we_int ?_
  refine we_prop cl_Ruler.cls p_Ruler_length hr ?_
  refine we_var 0 rfl (by walk_at "vis") rfl ?_
  refine ⟨_, rfl, ruler1, rfl, (Out.nx (Out.sb h)).imp (fun r3 h => ?_) (fun _ he => he)⟩
  obtain ⟨g4, h⟩ := Out.gd h
  refine ⟨(1 : Int), r3, rfl, rfl, ⟨by decide, by decide⟩, g4, ?_⟩
  obtain ⟨g5, h⟩ := Out.gd h
  refine ⟨(rgI (1 : Int) r3), rfl, g5, Wk.refl _, fun x2 => ?_, ?_⟩
  · skip
    rintro Y ⟨s1, H1, C1, cl, fp, rfl⟩
    refine wg_name 1 nd rfl (by walk_at "vis") (by decide) (lt_ rfl) ?_
    rintro Y ⟨s1, H1, C1, cl, fp, rfl⟩
    refine wt_cmp rfl ?_
    refine we_var 1 rfl (by walk_at "vis") rfl ?_
    refine we_prop cl_Ruler.cls p_Ruler_marks hr ?_
    refine we_var 0 rfl (by walk_at "vis") rfl ?_
    refine ⟨_, rfl, ruler1, rfl, ?_⟩
    refine ⟨_, _, .inl rfl, .inl rfl, ?_⟩
    refine opw_ninT ?_
    refine ⟨_, rfl, ?_⟩
    refine ⟨rfl, fun _ => ?_, fun _ => ?_⟩
    · skip
      rintro Y ⟨s1, H1, C1, cl, fp, rfl⟩
      refine we_var 1 rfl (by walk_at "vis") rfl ?_
      exact ⟨_, rfl, Wk.refl _, rfl⟩
    exact ⟨Wk.refl _, rfl⟩
  refine ⟨_, rfl, ?_⟩
  exact h
theorem ok_best_mark {f : Addr} {fd : FuncData} (F : Fun K "best_mark" "best_mark" s_best_mark f fd) (B : Bn mg) (c_free_marks : Cal P w K mg base "free_marks" 6 ["ruler"] (FM cx (A := Rul) (R := List Int) (fun a => [(eRul C_Ruler) a]) (fun v => .fr ((eL eI) v)) (fun a => m_free_marks a))) (c_spans_with : Cal P w K mg base "spans_with" 5 ["marks", "more"] (FM cx (A := (List Int) × (List Int)) (R := List (Int × Bool)) (fun a => [(eT eI) a.1, (eL eI) a.2]) (fun v => .fr ((eD kI eB) v)) (fun a => m_spans_with a.1 a.2))) (cl_Ruler : Cl_Ruler K C_Ruler) (p_Ruler_marks : PropD P w K mg base C_Ruler "marks" 3 (FM cx (A := Rul) (R := List Int) (fun a => [(eRul C_Ruler) a]) (fun v => .sh ((eT eI) v)) (fun a => .ok (m_Ruler_marks a)))) : FnOk P w K mg base (L2.CX P w) 8 f fd ["ruler"] (spD K (FM cx (A := Rul) (R := Option (Int)) (fun a => [(eRul C_Ruler) a]) (fun v => .sh ((eO eI) v)) (fun a => m_best_mark a))) := by
  refine def_ok F sc_best_mark (fun ds G post px h => ?_) (fun cdv A outer s H E F0 T hr ds G post px h tk hp => ?_)
  · obtain ⟨_, rfl, _⟩ := h; rfl
  obtain ⟨ruler1, rfl, h⟩ := h
  unfold m_best_mark at h
  try dsimp only at h
  have nd := sc_best_mark.nd
  obtain ⟨q_Ruler_0, sl_Ruler_0⟩ := cl_Ruler.s0
  obtain ⟨q_Ruler_1, sl_Ruler_1⟩ := cl_Ruler.s1
  change WB _ _ [.sh ((eRul C_Ruler) ruler1), .no, .no, .no] _ _
  -- 112
  refine wb_cons ?_
  refine Hold.h ?_
  refine ws_setH 1 nd rfl (by walk_at "vis") ?_
  refine we_cal tk c_free_marks hr rfl ?_
  refine wa_cons ?_
  refine we_var 0 rfl (by walk_at "vis") rfl ?_
  refine ⟨_, _, rfl, ?_⟩
  refine wa_nil ?_
  refine ⟨ruler1, rfl, (Out.sb h).imp (fun r2 h => ?_) (fun _ he => he)⟩
  refine ⟨lt_ rfl, _, rfl, ?_⟩
  change WB _ _ [.sh ((eRul C_Ruler) ruler1), .own ((eL eI) r2), .no, .no] _ _
  -- 113
  refine wb_cons (ws_if ?_)
  refine wt_cmp (nomark _) ?_
  refine we_var 1 rfl (by walk_at "vis") rfl ?_
  refine we_lst ?_
  refine wa_nil ?_
  refine ⟨by decide, ?_⟩
  refine ⟨_, _, .inl rfl, .inl rfl, ?_⟩
  refine opw_eqC (eqc_lst eqc_int) hr.units r2 ([] : List Int) ?_
  refine ⟨_, rfl, ?_⟩
  refine ⟨fun hc => ?_, fun hc => ?_⟩
  · skip
    have h := (Out.iteb h).1 hc
    -- 114
    refine wb_cons (ws_ret ?_)
    refine we_non ?_
    refine ⟨_, rfl, ?_⟩
    exact h
  have h := (Out.iteb h).2 hc
  refine wb_nil ?_
  -- 115
  refine wb_setLcQ [("mark", 3)] 2 rfl nd rfl rfl (by rfl) (blkOk_by (by rfl)) (lcS_preP (γ := Option (Int)) [("mark", 3)] [.sh ((eRul C_Ruler) ruler1), .sh ((eL eI) r2), .no, .no] (fun _ : Unit => G) (en := eI) eI ?_)
  refine ti_lst (f := eI) ?_
  refine we_var 1 rfl (by walk_at "vis") rfl ?_
  refine ⟨r2, _, rfl, fun hl4 => ?_⟩
  refine ⟨r2, (), _, _, _, _, rfl, hl4, Wk.refl _, rfl, h, fun s5 x3 Q' h => ?_, fun l6 h => ?_⟩
  · skip
    rintro Y ⟨s1, H1, C1, cl, fp, rfl⟩
    refine wg_name 3 nd rfl (by walk_at "vis") (by decide) (lt_ rfl) ?_
    rintro Y ⟨s1, H1, C1, cl, fp, rfl⟩
    refine we_b1 (x := "len") (id := "len") rfl B.len bt_len ?_
    refine we_lock ?_
    refine we_cal (BlkX.tk ⟨_, _, _, _, _, rfl⟩) c_spans_with hr rfl ?_
    refine wa_cons ?_
    refine we_prop cl_Ruler.cls p_Ruler_marks hr ?_
    refine we_var 0 rfl (by walk_at "vis") rfl ?_
    refine ⟨_, rfl, ruler1, rfl, ?_⟩
    refine ⟨_, _, rfl, ?_⟩
    refine wa_cons ?_
    refine we_lst ?_
    refine wa_cons ?_
    refine we_var 3 rfl (by walk_at "vis") rfl ?_
    refine ⟨_, _, rfl, ?_⟩
    refine wa_nil ?_
    refine ⟨lt_ rfl, ?_⟩
    refine ⟨_, _, rfl, ?_⟩
    refine wa_nil ?_
    refine ⟨(m_Ruler_marks ruler1, [x3]), rfl, (Out.nx (Out.sb h)).imp (fun r8 h => ?_) (fun _ he => he)⟩
    refine ⟨_, _, rfl, ?_⟩
    refine ⟨_, .inl rfl, ?_⟩
    refine t_lenD (k := kI) (f := eB) r8 ?_
    exact ⟨((r8).length : Int), (), _, rfl, Wk.refl _, rfl, h⟩
  refine ⟨lt_ rfl, _, rfl, ?_⟩
  change WB _ _ [.sh ((eRul C_Ruler) ruler1), .sh ((eL eI) r2), .own ((eL eI) l6.1), .no] _ _
  -- 116
  refine wb_cons (ws_ret ?_)
  refine we_ix (fun _ _ => rfl) ?_
  refine we_var 1 rfl (by walk_at "vis") rfl ?_
  refine we_index ?_
  refine we_var 2 rfl (by walk_at "vis") rfl ?_
  refine ⟨_, .inl rfl, ?_⟩
  refine we_b1 (x := "max") (id := "max") rfl B.max bt_max ?_
  refine we_var 2 rfl (by walk_at "vis") rfl ?_
  refine ⟨_, .inl rfl, ?_⟩
  obtain ⟨x9, hx9, h⟩ := Out.gt h
  refine t_max rfl hx9 ?_
  refine ⟨_, _, .inl rfl, .inl rfl, ?_⟩
  obtain ⟨x10, hx10, h⟩ := Out.gt h
  refine t_index hx10 ?_
  obtain ⟨x11, hx11, h⟩ := Out.gt h
  refine ⟨_, _, .inl rfl, .inl rfl, ?_⟩
  refine t_ix (f := eI) hx11 ?_
  refine ⟨_, rfl, ?_⟩
  exact h
theorem ok_first_enough {f : Addr} {fd : FuncData} (F : Fun K "first_enough" "first_enough" s_first_enough f fd) (B : Bn mg) (c_spans_with_t : Cal P w K mg base "spans_with" 5 ["marks", "more"] (FM cx (A := (List Int) × (List Int)) (R := List (Int × Bool)) (fun a => [(eT eI) a.1, (eT eI) a.2]) (fun v => .fr ((eD kI eB) v)) (fun a => m_spans_with_t a.1 a.2))) (c_tuples_of : Cal P w K mg base "tuples_of" 3 ["values", "size"] (FM cx (A := (List Int) × Int) (R := List (List Int)) (fun a => [(eL eI) a.1, eI a.2]) (fun v => .sh ((eL (eT eI)) v)) (fun a => m_tuples_of a.1 a.2))) (cl_Ruler : Cl_Ruler K C_Ruler) (p_Ruler_length : PropD P w K mg base C_Ruler "length" 3 (FM cx (A := Rul) (R := Int) (fun a => [(eRul C_Ruler) a]) (fun v => .sh (eI v)) (fun a => m_Ruler_length a))) (p_Ruler_marks : PropD P w K mg base C_Ruler "marks" 3 (FM cx (A := Rul) (R := List Int) (fun a => [(eRul C_Ruler) a]) (fun v => .sh ((eT eI) v)) (fun a => .ok (m_Ruler_marks a)))) (p_Ruler_spans : PropD P w K mg base C_Ruler "spans" 5 (FM cx (A := Rul) (R := List Int) (fun a => [(eRul C_Ruler) a]) (fun v => .sh ((eT eI) v)) (fun a => m_Ruler_spans a))) (x_Ruler_len : SpecD P w K mg base C_Ruler "__len__" 3 ["self"] (FM cx (A := Rul) (R := Int) (fun a => [(eRul C_Ruler) a]) (fun v => .sh (eI v)) (fun a => .ok (m_Ruler___len a)))) : FnOk P w K mg base (L2.CX P w) 8 f fd ["ruler", "free", "most", "size"] (spD K (FM cx (A := Rul × (List Int) × Int × Int) (R := Option (List Int)) (fun a => [(eRul C_Ruler) a.1, (eL eI) a.2.1, eI a.2.2.1, eI a.2.2.2]) (fun v => .sh ((eO (eT eI)) v)) (fun a => m_first_enough a.1 a.2.1 a.2.2.1 a.2.2.2))) := by
  refine def_ok F sc_first_enough (fun ds G post px h => ?_) (fun cdv A outer s H E F0 T hr ds G post px h tk hp => ?_)
  · obtain ⟨_, rfl, _⟩ := h; rfl
  obtain ⟨⟨ruler1, free2, most3, size4⟩, rfl, h⟩ := h
  unfold m_first_enough at h
  try dsimp only at h
  have nd := sc_first_enough.nd
  obtain ⟨q_Ruler_0, sl_Ruler_0⟩ := cl_Ruler.s0
  obtain ⟨q_Ruler_1, sl_Ruler_1⟩ := cl_Ruler.s1
  change WB _ _ [.sh ((eRul C_Ruler) ruler1), .sh ((eL eI) free2), .sh (eI most3), .sh (eI size4), .no, .no, .no, .no, .no] _ _
  -- 135
  refine wb_setLcQ [("span", 8)] 4 rfl nd rfl rfl (by rfl) (blkOk_by (by rfl)) (lcS_preP (γ := Option (List Int)) [("span", 8)] [.sh ((eRul C_Ruler) ruler1), .sh ((eL eI) free2), .sh (eI most3), .sh (eI size4), .no, .no, .no, .no, .no] (fun _ : Unit => G) (en := eI) eI ?_)
  refine wi_rng2 rfl B.range ?_
  refine we_int ?_
  refine we_bin ?_
  refine we_var 2 rfl (by walk_at "vis") rfl ?_
  refine we_int ?_
  refine ⟨_, _, .inl rfl, .inl rfl, ?_⟩
  refine opw_add ?_
  obtain ⟨g6, h⟩ := Out.gd h
  refine ⟨(1 : Int), (most3 + (1 : Int)), rfl, rfl, ⟨by decide, by decide⟩, g6, ?_⟩
  obtain ⟨g7, h⟩ := Out.gd h
  refine ⟨(rgI (1 : Int) (most3 + (1 : Int))), (), _, _, _, _, rfl, g7, Wk.refl _, rfl, h, fun s8 x5 Q' h => ?_, fun l9 h => ?_⟩
  · skip
    rintro Y ⟨s1, H1, C1, cl, fp, rfl⟩
    refine wg_name 8 nd rfl (by walk_at "vis") (by decide) (lt_ rfl) ?_
    rintro Y ⟨s1, H1, C1, cl, fp, rfl⟩
    refine wt_cmp rfl ?_
    refine we_var 8 rfl (by walk_at "vis") rfl ?_
    refine we_prop cl_Ruler.cls p_Ruler_spans hr ?_
    refine we_var 0 rfl (by walk_at "vis") rfl ?_
    refine ⟨_, rfl, ruler1, rfl, (Out.nx (Out.sb h)).imp (fun r10 h => ?_) (fun _ he => he)⟩
    refine ⟨_, _, .inl rfl, .inl rfl, ?_⟩
    refine opw_ninT ?_
    refine ⟨_, rfl, ?_⟩
    refine ⟨fun hc => ?_, fun hc => ?_⟩
    · skip
      have h := (Out.iteb h).1 hc
      rintro Y ⟨s1, H1, C1, cl, fp, rfl⟩
      refine we_var 8 rfl (by walk_at "vis") rfl ?_
      exact ⟨x5, (), _, rfl, Wk.refl _, rfl, h⟩
    have h := (Out.iteb h).2 hc
    exact ⟨(), Wk.refl _, rfl, h⟩
  refine ⟨lt_ rfl, _, rfl, ?_⟩
  change WB _ _ [.sh ((eRul C_Ruler) ruler1), .sh ((eL eI) free2), .sh (eI most3), .sh (eI size4), .own ((eL eI) l9.1), .no, .no, .no, .no] _ _
  -- 136
  refine wb_cons ?_
  refine Hold.h ?_
  refine ws_setH 5 nd rfl (by walk_at "vis") ?_
  refine we_bin ?_
  refine we_b1 (x := "len") (id := "len") rfl B.len bt_len ?_
  refine we_var 0 rfl (by walk_at "vis") rfl ?_
  refine ⟨_, .inl rfl, ?_⟩
  obtain ⟨g11, h⟩ := Out.gd h
  refine c_lenI x_Ruler_len hr (fun G_ => ⟨ruler1, rfl, rfl, _, rfl, g11, ?_⟩)
  refine we_var 3 rfl (by walk_at "vis") rfl ?_
  refine ⟨_, _, .inl rfl, .inl rfl, ?_⟩
  refine opw_add ?_
  refine ⟨lt_ rfl, _, rfl, ?_⟩
  refine Hold.h ?_
  refine wb_letH h (fun many12 => [.sh ((eRul C_Ruler) ruler1), .sh ((eL eI) free2), .sh (eI most3), .sh (eI size4), .own ((eL eI) l9.1), .sh (eI many12), .no, .no, .no]) rfl fun many12 h => ?_
  -- 137
  refine wb_cons (ws_if ?_)
  refine wt_w ?_
  refine ww_orN ?_
  refine wt_cmp (nomark _) ?_
  refine we_var 2 rfl (by walk_at "vis") rfl ?_
  refine we_prop cl_Ruler.cls p_Ruler_length hr ?_
  refine we_var 0 rfl (by walk_at "vis") rfl ?_
  refine ⟨_, rfl, ruler1, rfl, (Out.nx (Out.sb h)).imp (fun r14 h => ?_) (fun _ he => he)⟩
  refine ⟨_, _, .inl rfl, .inl rfl, ?_⟩
  refine opw_gt ?_
  refine ⟨_, rfl, ?_⟩
  refine ⟨_, _, _, _, _, h, fun _ Q' h => ?_, fun c13 h => ?_⟩
  · skip
    refine ww_or1 ?_
    refine wt_cmp (nomark _) ?_
    refine we_b1 (x := "len") (id := "len") rfl B.len bt_len ?_
    refine we_var 4 rfl (by walk_at "vis") rfl ?_
    refine ⟨_, .inl rfl, ?_⟩
    refine t_len (f := eI) l9.1 ?_
    refine we_bin ?_
    refine we_bin ?_
    refine we_bin ?_
    refine we_var 5 rfl (by walk_at "vis") rfl ?_
    refine we_bin ?_
    refine we_var 5 rfl (by walk_at "vis") rfl ?_
    refine we_int ?_
    refine ⟨_, _, .inl rfl, .inl rfl, ?_⟩
    refine opw_sub ?_
    obtain ⟨g15, h⟩ := Out.gd h
    refine ⟨_, _, .inl rfl, .inl rfl, ?_⟩
    refine opw_mul (g15) ?_
    refine we_int ?_
    refine ⟨_, _, .inl rfl, .inl rfl, ?_⟩
    refine opw_fdivE (⟨by decide, by decide⟩) ?_
    refine we_bin ?_
    refine we_bin ?_
    refine we_b1 (x := "len") (id := "len") rfl B.len bt_len ?_
    refine we_var 0 rfl (by walk_at "vis") rfl ?_
    refine ⟨_, .inl rfl, ?_⟩
    obtain ⟨g16, h⟩ := Out.gd h
    refine c_lenI x_Ruler_len hr (fun G_ => ⟨ruler1, rfl, rfl, _, rfl, g16, ?_⟩)
    refine we_bin ?_
    refine we_b1 (x := "len") (id := "len") rfl B.len bt_len ?_
    refine we_var 0 rfl (by walk_at "vis") rfl ?_
    refine ⟨_, .inl rfl, ?_⟩
    obtain ⟨g17, h⟩ := Out.gd h
    refine c_lenI x_Ruler_len hr (fun G_ => ⟨ruler1, rfl, rfl, _, rfl, g17, ?_⟩)
    refine we_int ?_
    refine ⟨_, _, .inl rfl, .inl rfl, ?_⟩
    refine opw_sub ?_
    obtain ⟨g18, h⟩ := Out.gd h
    refine ⟨_, _, .inl rfl, .inl rfl, ?_⟩
    refine opw_mul (g18) ?_
    refine we_int ?_
    refine ⟨_, _, .inl rfl, .inl rfl, ?_⟩
    refine opw_fdivE (⟨by decide, by decide⟩) ?_
    refine ⟨_, _, .inl rfl, .inl rfl, ?_⟩
    refine opw_sub ?_
    refine ⟨_, _, .inl rfl, .inl rfl, ?_⟩
    refine opw_gt ?_
    refine ⟨_, rfl, ?_⟩
    exact ⟨rfl, rfl, h⟩
  refine ⟨fun hc => ?_, fun hc => ?_⟩
  · skip
    have h := (Out.iteb h).1 hc
    -- 138
    refine wb_cons (ws_ret ?_)
    refine we_non ?_
    refine ⟨_, rfl, ?_⟩
    exact h
  have h := (Out.iteb h).2 hc
  refine wb_nil ?_
  -- 139
  refine wb_frz 4 rfl rfl ?_
  change WB _ _ [.sh ((eRul C_Ruler) ruler1), .sh ((eL eI) free2), .sh (eI most3), .sh (eI size4), .sh ((eL eI) l9.1), .sh (eI many12), .no, .no, .no] _ _
  refine Hold.h ?_
  refine wb_forRH (β := Option (List Int)) [6] (σT := Unit) (ρ := Option (List Int)) (fun s19 => [.sh ((eRul C_Ruler) ruler1), .sh ((eL eI) free2), .sh (eI most3), .sh (eI size4), .sh ((eL eI) l9.1), .sh (eI many12), .no, .no, .no]) (fun s19 => G) (eT eI) ((fun v => .sh ((eO (eT eI)) v))) (fun _ => G) hp rfl ?_
  refine ti_lst (f := (eT eI)) ?_
  refine we_cal tk c_tuples_of hr rfl ?_
  refine wa_cons ?_
  refine we_var 1 rfl (by walk_at "vis") rfl ?_
  refine ⟨_, _, rfl, ?_⟩
  refine wa_cons ?_
  refine we_var 3 rfl (by walk_at "vis") rfl ?_
  refine ⟨_, _, rfl, ?_⟩
  refine wa_nil ?_
  refine ⟨(free2, size4), rfl, (Out.sb h).imp (fun r22 h => ?_) (fun _ he => he)⟩
  refine ⟨r22, _, rfl, fun hl23 => ?_⟩
  refine ⟨r22, (), _, _, _, _, rfl, (.eq (.eq (.eq (.eq (.eq (.eq (.no (.no (.no .nil))))))))), rfl, h, fun s19 x21 Q' h => ?_, (fun v h => h), fun s20 h => ?_⟩
  · skip
    refine wg_name 6 nd rfl (by walk_at "vis") (by decide) (lt_ rfl) ?_
    change WB _ _ [.sh ((eRul C_Ruler) ruler1), .sh ((eL eI) free2), .sh (eI most3), .sh (eI size4), .sh ((eL eI) l9.1), .sh (eI many12), .sh ((eT eI) x21), .no, .no] _ _
    -- 140
    refine wb_cons ?_
    refine Hold.h ?_
    refine ws_setH 7 nd rfl (by walk_at "vis") ?_
    refine we_cal tk c_spans_with_t hr rfl ?_
    refine wa_cons ?_
    refine we_prop cl_Ruler.cls p_Ruler_marks hr ?_
    refine we_var 0 rfl (by walk_at "vis") rfl ?_
    refine ⟨_, rfl, ruler1, rfl, ?_⟩
    refine ⟨_, _, rfl, ?_⟩
    refine wa_cons ?_
    refine we_var 6 rfl (by walk_at "vis") rfl ?_
    refine ⟨_, _, rfl, ?_⟩
    refine wa_nil ?_
    refine ⟨(m_Ruler_marks ruler1, x21), rfl, (Out.sb h).imp (fun r25 h => ?_) (fun _ he => he)⟩
    refine ⟨lt_ rfl, _, rfl, ?_⟩
    change WB _ _ [.sh ((eRul C_Ruler) ruler1), .sh ((eL eI) free2), .sh (eI most3), .sh (eI size4), .sh ((eL eI) l9.1), .sh (eI many12), .sh ((eT eI) x21), .own ((eD kI eB) r25), .no] _ _
    -- 141
    refine wb_cons (ws_if ?_)
    refine wt_cmp (nomark _) ?_
    refine we_lcQ [("span", 8)] rfl nd (blkOk_by (by rfl)) (lc1_pre [("span", 8)] [.sh ((eRul C_Ruler) ruler1), .sh ((eL eI) free2), .sh (eI most3), .sh (eI size4), .sh ((eL eI) l9.1), .sh (eI many12), .sh ((eT eI) x21), .own ((eD kI eB) r25), .no] (en := eI) eI (fun x26 => !dhas r25 x26) (fun (x26 : Int) => x26) ?_)
    refine ti_lst (f := eI) ?_
    refine we_var 4 rfl (by walk_at "vis") rfl ?_
    refine ⟨l9.1, _, rfl, fun hl27 => ?_⟩
    refine ⟨l9.1, rfl, hl27, Wk.refl _, fun x26 => ?_, ?_⟩
    · skip
      rintro Y ⟨s1, H1, C1, cl, fp, rfl⟩
      refine wg_name 8 nd rfl (by walk_at "vis") (by decide) (lt_ rfl) ?_
      rintro Y ⟨s1, H1, C1, cl, fp, rfl⟩
      refine wt_cmp rfl ?_
      refine we_var 8 rfl (by walk_at "vis") rfl ?_
      refine we_var 7 rfl (by walk_at "vis") rfl ?_
      refine ⟨_, _, .inl rfl, .inl rfl, ?_⟩
      refine opw_dnin (k := kI) (f := eB) (kvs := r25) (x := x26) kI_inj hr.units ?_
      refine ⟨_, rfl, ?_⟩
      refine ⟨rfl, fun _ => ?_, fun _ => ?_⟩
      · skip
        rintro Y ⟨s1, H1, C1, cl, fp, rfl⟩
        refine we_var 8 rfl (by walk_at "vis") rfl ?_
        exact ⟨_, rfl, Wk.refl _, rfl⟩
      exact ⟨Wk.refl _, rfl⟩
    refine we_lst ?_
    refine wa_nil ?_
    refine ⟨by decide, ?_⟩
    refine ⟨_, _, .inl rfl, .inl rfl, ?_⟩
    refine opw_eqC (eqc_lst eqc_int) hr.units ((l9.1.filter (fun (x26 : Int) => !dhas r25 x26)).map (fun (x26 : Int) => x26)) ([] : List Int) ?_
    refine ⟨_, rfl, ?_⟩
    refine ⟨fun hc => ?_, fun hc => ?_⟩
    · skip
      have h := (Out.iteb h).1 hc
      -- 142
      refine wb_cons (ws_ret ?_)
      refine we_var 6 rfl (by walk_at "vis") rfl ?_
      refine ⟨_, rfl, ?_⟩
      exact ⟨some x21, rfl, rfl, h⟩
    have h := (Out.iteb h).2 hc
    refine wb_nil ?_
    exact wb_nil ⟨(), (.eq (.eq (.eq (.eq (.eq (.eq (.no (.no (.no .nil))))))))), rfl, h⟩
  -- 143
  refine wb_cons (ws_ret ?_)
  refine we_non ?_
  refine ⟨_, rfl, ?_⟩
  exact h
theorem ok_fewest_marks {f : Addr} {fd : FuncData} (F : Fun K "fewest_marks" "fewest_marks" s_fewest_marks f fd) (B : Bn mg) (c_first_enough : Cal P w K mg base "first_enough" 8 ["ruler", "free", "most", "size"] (FM cx (A := Rul × (List Int) × Int × Int) (R := Option (List Int)) (fun a => [(eRul C_Ruler) a.1, (eL eI) a.2.1, eI a.2.2.1, eI a.2.2.2]) (fun v => .sh ((eO (eT eI)) v)) (fun a => m_first_enough a.1 a.2.1 a.2.2.1 a.2.2.2))) (c_free_marks : Cal P w K mg base "free_marks" 6 ["ruler"] (FM cx (A := Rul) (R := List Int) (fun a => [(eRul C_Ruler) a]) (fun v => .fr ((eL eI) v)) (fun a => m_free_marks a))) (c_is_number : Cal P w K mg base "is_number" 3 ["value", "lowest", "highest"] (FM cx (A := Int × Int × Int) (R := Bool) (fun a => [eI a.1, eI a.2.1, eI a.2.2]) (fun v => .sh (eB v)) (fun a => .ok (m_is_number a.1 a.2.1 a.2.2)))) {t_MAX_ADDED : Tok} (m_MAX_ADDED : mg "MAX_ADDED" = some (.int 3 t_MAX_ADDED)) {t_MAX_LENGTH : Tok} (m_MAX_LENGTH : mg "MAX_LENGTH" = some (.int 300 t_MAX_LENGTH)) : FnOk P w K mg base (L2.CX P w) 10 f fd ["ruler", "most"] (spD K (FM cx (A := Rul × Int) (R := Option (List Int)) (fun a => [(eRul C_Ruler) a.1, eI a.2]) (fun v => .sh ((eO (eT eI)) v)) (fun a => m_fewest_marks a.1 a.2))) := by
  refine def_ok F sc_fewest_marks (fun ds G post px h => ?_) (fun cdv A outer s H E F0 T hr ds G post px h tk hp => ?_)
  · obtain ⟨_, rfl, _⟩ := h; rfl
  obtain ⟨⟨ruler1, most2⟩, rfl, h⟩ := h
  unfold m_fewest_marks at h
  try dsimp only at h
  have nd := sc_fewest_marks.nd
  change WB _ _ [.sh ((eRul C_Ruler) ruler1), .sh (eI most2), .no, .no, .no] _ _
  -- 126
  refine wb_cons (ws_if ?_)
  refine wt_not ?_
  refine wt_val (fun _ => rfl) ?_
  refine we_cal tk c_is_number hr rfl ?_
  refine wa_cons ?_
  refine we_var 1 rfl (by walk_at "vis") rfl ?_
  refine ⟨_, _, rfl, ?_⟩
  refine wa_cons ?_
  refine we_int ?_
  refine ⟨_, _, rfl, ?_⟩
  refine wa_cons ?_
  refine we_globI rfl m_MAX_LENGTH ?_
  refine ⟨_, _, rfl, ?_⟩
  refine wa_nil ?_
  refine ⟨(most2, (1 : Int), (300 : Int)), rfl, ?_⟩
  refine ⟨_, rfl, ?_⟩
  refine ⟨fun hc => ?_, fun hc => ?_⟩
  · skip
    have h := (Out.iteb h).1 hc
    -- 127
    exact h.elim
  have h := (Out.iteb h).2 hc
  refine wb_nil ?_
  -- 128
  refine wb_cons ?_
  refine Hold.h ?_
  refine ws_setH 2 nd rfl (by walk_at "vis") ?_
  refine we_cal tk c_free_marks hr rfl ?_
  refine wa_cons ?_
  refine we_var 0 rfl (by walk_at "vis") rfl ?_
  refine ⟨_, _, rfl, ?_⟩
  refine wa_nil ?_
  refine ⟨ruler1, rfl, (Out.sb h).imp (fun r4 h => ?_) (fun _ he => he)⟩
  refine ⟨lt_ rfl, _, rfl, ?_⟩
  change WB _ _ [.sh ((eRul C_Ruler) ruler1), .sh (eI most2), .own ((eL eI) r4), .no, .no] _ _
  -- 129
  refine wb_frz 2 rfl rfl ?_
  change WB _ _ [.sh ((eRul C_Ruler) ruler1), .sh (eI most2), .sh ((eL eI) r4), .no, .no] _ _
  refine Hold.h ?_
  refine wb_forRH (β := Option (List Int)) [3] (σT := Unit) (ρ := Option (List Int)) (fun s5 => [.sh ((eRul C_Ruler) ruler1), .sh (eI most2), .sh ((eL eI) r4), .no, .no]) (fun s5 => G) eI ((fun v => .sh ((eO (eT eI)) v))) (fun _ => G) hp rfl ?_
  refine wi_rng1 rfl B.range ?_
  refine we_bin ?_
  refine we_globI rfl m_MAX_ADDED ?_
  refine we_int ?_
  refine ⟨_, _, .inl rfl, .inl rfl, ?_⟩
  refine opw_add ?_
  refine ⟨((3 : Int) + (1 : Int)), rfl, ⟨by decide, by decide⟩, ?_⟩
  refine ⟨(rgI 0 ((3 : Int) + (1 : Int))), (), _, _, _, _, rfl, (.eq (.eq (.eq (.no (.no .nil))))), rfl, h, fun s5 x7 Q' h => ?_, (fun v h => h), fun s6 h => ?_⟩
  · skip
    refine wg_name 3 nd rfl (by walk_at "vis") (by decide) (lt_ rfl) ?_
    change WB _ _ [.sh ((eRul C_Ruler) ruler1), .sh (eI most2), .sh ((eL eI) r4), .sh (eI x7), .no] _ _
    -- 130
    refine wb_cons ?_
    refine Hold.h ?_
    refine ws_setH 4 nd rfl (by walk_at "vis") ?_
    refine we_cal tk c_first_enough hr rfl ?_
    refine wa_cons ?_
    refine we_var 0 rfl (by walk_at "vis") rfl ?_
    refine ⟨_, _, rfl, ?_⟩
    refine wa_cons ?_
    refine we_var 2 rfl (by walk_at "vis") rfl ?_
    refine ⟨_, _, rfl, ?_⟩
    refine wa_cons ?_
    refine we_var 1 rfl (by walk_at "vis") rfl ?_
    refine ⟨_, _, rfl, ?_⟩
    refine wa_cons ?_
    refine we_var 3 rfl (by walk_at "vis") rfl ?_
    refine ⟨_, _, rfl, ?_⟩
    refine wa_nil ?_
    refine ⟨(ruler1, r4, most2, x7), rfl, (Out.sb h).imp (fun r8 h => ?_) (fun _ he => he)⟩
    refine ⟨lt_ rfl, _, rfl, ?_⟩
    change WB _ _ [.sh ((eRul C_Ruler) ruler1), .sh (eI most2), .sh ((eL eI) r4), .sh (eI x7), .sh ((eO (eT eI)) r8)] _ _
    -- 131
    refine wb_cons (ws_if ?_)
    refine wt_cmp (nomark _) ?_
    refine we_var 4 rfl (by walk_at "vis") rfl ?_
    refine we_non ?_
    refine ⟨_, _, .inl rfl, .inl rfl, ?_⟩
    refine t_notN (fun _ => rfl) ?_
    refine ⟨_, rfl, ?_⟩
    refine ⟨fun hc => ?_, fun hc => ?_⟩
    · skip
      have h := (Out.iteb h).1 hc
      -- 132
      refine wb_cons (ws_ret ?_)
      refine we_var 4 rfl (by walk_at "vis") rfl ?_
      refine ⟨_, rfl, ?_⟩
      exact ⟨r8, rfl, rfl, h⟩
    have h := (Out.iteb h).2 hc
    refine wb_nil ?_
    exact wb_nil ⟨(), (.eq (.eq (.eq (.no (.no .nil))))), rfl, h⟩
  -- 133
  refine wb_cons (ws_ret ?_)
  refine we_non ?_
  refine ⟨_, rfl, ?_⟩
  exact h
theorem ok_repeated {f : Addr} {fd : FuncData} (F : Fun K "repeated" "repeated" s_repeated f fd) (B : Bn mg) (cl_Ruler : Cl_Ruler K C_Ruler) (p_Ruler_spans : PropD P w K mg base C_Ruler "spans" 5 (FM cx (A := Rul) (R := List Int) (fun a => [(eRul C_Ruler) a]) (fun v => .sh ((eT eI) v)) (fun a => m_Ruler_spans a))) (p_Ruler_spread : PropD P w K mg base C_Ruler "spread" 5 (FM cx (A := Rul) (R := List Int) (fun a => [(eRul C_Ruler) a]) (fun v => .sh ((eT eI) v)) (fun a => m_Ruler_spread a))) : FnOk P w K mg base (L2.CX P w) 8 f fd ["ruler"] (spD K (FM cx (A := Rul) (R := List Int) (fun a => [(eRul C_Ruler) a]) (fun v => .fr ((eL eI) v)) (fun a => m_repeated a))) := by
  refine def_ok F sc_repeated (fun ds G post px h => ?_) (fun cdv A outer s H E F0 T hr ds G post px h tk hp => ?_)
  · obtain ⟨_, rfl, _⟩ := h; rfl
  obtain ⟨ruler1, rfl, h⟩ := h
  unfold m_repeated at h
  try dsimp only at h
  have nd := sc_repeated.nd
  obtain ⟨q_Ruler_0, sl_Ruler_0⟩ := cl_Ruler.s0
  obtain ⟨q_Ruler_1, sl_Ruler_1⟩ := cl_Ruler.s1
  change WB _ _ [.sh ((eRul C_Ruler) ruler1), .no] _ _
  -- 145
  refine wb_cons (ws_ret ?_)
  refine we_lcQ [("span", 1)] rfl nd (blkOk_by (by rfl)) (lcS_preP (γ := List Int) [("span", 1)] [.sh ((eRul C_Ruler) ruler1), .no] (fun _ : Unit => G) (en := eI) eI ?_)
  refine Hold.h ?_
  refine ti_tupH (f := eI) ?_
  refine we_prop cl_Ruler.cls p_Ruler_spans hr ?_
  refine we_var 0 rfl (by walk_at "vis") rfl ?_
  refine ⟨_, rfl, ruler1, rfl, (Out.nx (Out.sb h)).imp (fun r3 h => ?_) (fun _ he => he)⟩
  refine ⟨r3, _, rfl, fun hl4 => ?_⟩
  refine ⟨r3, (), _, _, _, _, rfl, hl4, Wk.refl _, rfl, h, fun s5 x2 Q' h => ?_, fun l6 h => ?_⟩
  · skip
    rintro Y ⟨s1, H1, C1, cl, fp, rfl⟩
    refine wg_name 1 nd rfl (by walk_at "vis") (by decide) (lt_ rfl) ?_
    rintro Y ⟨s1, H1, C1, cl, fp, rfl⟩
    refine wt_cmp (nomark _) ?_
    refine we_count ?_
    refine we_t1 (x := "list") (id := "list") rfl B.list bt_list ?_
    refine we_prop cl_Ruler.cls p_Ruler_spread hr ?_
    refine we_var 0 rfl (by walk_at "vis") rfl ?_
    refine ⟨_, rfl, ruler1, rfl, (Out.nx (Out.sb h)).imp (fun r7 h => ?_) (fun _ he => he)⟩
    refine ⟨_, .inl rfl, ?_⟩
    refine c_listT ?_
    refine ⟨_, .inl rfl, ?_⟩
    refine we_var 1 rfl (by walk_at "vis") rfl ?_
    refine ⟨_, _, .inl rfl, .inl rfl, ?_⟩
    refine mw_count (ns := r7) (k := x2) ?_
    refine we_int ?_
    refine ⟨_, _, .inl rfl, .inl rfl, ?_⟩
    refine opw_gt ?_
    refine ⟨_, rfl, ?_⟩
    refine ⟨fun hc => ?_, fun hc => ?_⟩
    · skip
      have h := (Out.iteb h).1 hc
      rintro Y ⟨s1, H1, C1, cl, fp, rfl⟩
      refine we_var 1 rfl (by walk_at "vis") rfl ?_
      exact ⟨x2, (), _, rfl, Wk.refl _, rfl, h⟩
    have h := (Out.iteb h).2 hc
    exact ⟨(), Wk.refl _, rfl, h⟩
  refine ⟨_, rfl, ?_⟩
  exact h
theorem ok_is_sparse {f : Addr} {fd : FuncData} (F : Fun K "is_sparse" "is_sparse" s_is_sparse f fd) (B : Bn mg) (c_repeated : Cal P w K mg base "repeated" 8 ["ruler"] (FM cx (A := Rul) (R := List Int) (fun a => [(eRul C_Ruler) a]) (fun v => .fr ((eL eI) v)) (fun a => m_repeated a))) : FnOk P w K mg base (L2.CX P w) 10 f fd ["ruler"] (spD K (FM cx (A := Rul) (R := Bool) (fun a => [(eRul C_Ruler) a]) (fun v => .sh (eB v)) (fun a => m_is_sparse a))) := by
  refine def_ok F sc_is_sparse (fun ds G post px h => ?_) (fun cdv A outer s H E F0 T hr ds G post px h tk hp => ?_)
  · obtain ⟨_, rfl, _⟩ := h; rfl
  obtain ⟨ruler1, rfl, h⟩ := h
  unfold m_is_sparse at h
  try dsimp only at h
  have nd := sc_is_sparse.nd
  change WB _ _ [.sh ((eRul C_Ruler) ruler1)] _ _
  -- 147
  refine wb_cons (ws_ret ?_)
  refine we_cmp (nomark _) ?_
  refine we_cal tk c_repeated hr rfl ?_
  refine wa_cons ?_
  refine we_var 0 rfl (by walk_at "vis") rfl ?_
  refine ⟨_, _, rfl, ?_⟩
  refine wa_nil ?_
  refine ⟨ruler1, rfl, (Out.sb h).imp (fun r2 h => ?_) (fun _ he => he)⟩
  refine we_lst ?_
  refine wa_nil ?_
  refine ⟨by decide, ?_⟩
  refine ⟨_, _, .inl rfl, .inl rfl, ?_⟩
  refine opw_eqC (eqc_lst eqc_int) hr.units r2 ([] : List Int) ?_
  refine ⟨_, rfl, ?_⟩
  exact h
theorem ok_validate_distances {f : Addr} {fd : FuncData} (F : Fun K "validate_distances" "validate_distances" s_validate_distances f fd) (B : Bn mg) (c_is_number : Cal P w K mg base "is_number" 3 ["value", "lowest", "highest"] (FM cx (A := Int × Int × Int) (R := Bool) (fun a => [eI a.1, eI a.2.1, eI a.2.2]) (fun v => .sh (eB v)) (fun a => .ok (m_is_number a.1 a.2.1 a.2.2)))) (kt_SIZES : KTup K mg "SIZES" [1, 3, 6, 10, 15, 21]) {t_MAX_LENGTH : Tok} (m_MAX_LENGTH : mg "MAX_LENGTH" = some (.int 300 t_MAX_LENGTH)) : FnOk P w K mg base (L2.CX P w) 5 f fd ["distances"] (spD K (FM cx (A := List Int) (R := Unit) (fun a => [(eL eI) a]) (fun v => .sh (eU v)) (fun a => m_validate_distances a))) := by
  refine def_ok F sc_validate_distances (fun ds G post px h => ?_) (fun cdv A outer s H E F0 T hr ds G post px h tk hp => ?_)
  · obtain ⟨_, rfl, _⟩ := h; rfl
  obtain ⟨distances1, rfl, h⟩ := h
  unfold m_validate_distances at h
  try dsimp only at h
  have nd := sc_validate_distances.nd
  change WB _ _ [.sh ((eL eI) distances1), .no, .no, .no] _ _
  -- 77
  refine Hold.h ?_
  refine wb_forOH (β := Unit) [1, 2] (σT := Unit) (fun s2 => [.sh ((eL eI) distances1), .no, .no, .no]) (fun s2 => G) (eP eI eI) hp rfl ?_
  refine ti_enumL (f := eI) rfl B.enumerate ?_
  refine we_var 0 rfl (by walk_at "vis") rfl ?_
  refine ⟨distances1, _, rfl, fun hl5 => ?_⟩
  refine ⟨(penum distances1), (), _, _, _, _, rfl, (.eq (.no (.no (.no .nil)))), rfl, h, fun s2 x4 Q' h => ?_, fun s3 h => ?_⟩
  · skip
    refine wg_pair 1 2 rfl nd rfl rfl (by walk_at "vis") (by walk_at "vis") (by decide) (by decide) (lt_ rfl) (lt_ rfl) ?_
    change WB _ _ [.sh ((eL eI) distances1), .sh (eI x4.1), .sh (eI x4.2), .no] _ _
    -- 78
    refine wb_cons ?_
    refine Hold.h ?_
    refine ws_setH 3 nd rfl (by walk_at "vis") ?_
    refine we_ifN eI ?_
    refine wt_cmp (nomark _) ?_
    refine we_var 1 rfl (by walk_at "vis") rfl ?_
    refine we_int ?_
    refine ⟨_, _, .inl rfl, .inl rfl, ?_⟩
    refine opw_eqI ?_
    refine ⟨_, rfl, ?_⟩
    refine ⟨_, _, _, _, _, _, h, fun _ Q' h => ?_, fun _ Q' h => ?_, fun i6 h => ?_⟩
    · skip
      refine we_int ?_
      exact ⟨_, rfl, rfl, rfl, h⟩
    · skip
      refine we_ix (fun _ _ => rfl) ?_
      refine we_var 0 rfl (by walk_at "vis") rfl ?_
      refine we_bin ?_
      refine we_var 1 rfl (by walk_at "vis") rfl ?_
      refine we_int ?_
      refine ⟨_, _, .inl rfl, .inl rfl, ?_⟩
      refine opw_sub ?_
      obtain ⟨x7, hx7, h⟩ := Out.gt h
      refine ⟨_, _, .inl rfl, .inl rfl, ?_⟩
      refine t_ix (f := eI) hx7 ?_
      exact ⟨_, rfl, rfl, rfl, h⟩
    refine ⟨lt_ rfl, _, rfl, ?_⟩
    change WB _ _ [.sh ((eL eI) distances1), .sh (eI x4.1), .sh (eI x4.2), .sh (eI i6)] _ _
    -- 79
    refine wb_cons (ws_if ?_)
    refine wt_w ?_
    refine ww_orB ?_
    refine wt_cmp (nomark _) ?_
    refine we_var 1 rfl (by walk_at "vis") rfl ?_
    refine we_ix (fun _ _ => rfl) ?_
    refine we_ktup kt_SIZES rfl ?_
    refine we_un rfl ?_
    refine we_int ?_
    refine ⟨_, rfl, ?_⟩
    obtain ⟨x8, hx8, h⟩ := Out.gt h
    refine ⟨_, _, .inl rfl, .inl rfl, ?_⟩
    refine t_ixT (f := eI) hx8 ?_
    refine ⟨_, _, .inl rfl, .inl rfl, ?_⟩
    refine opw_eqI ?_
    refine ⟨_, rfl, ?_⟩
    refine ⟨(!(m_is_number x4.2 i6 (300 : Int))), fun _ => ?_, ?_⟩
    · skip
      refine ww_or1 ?_
      refine wt_not ?_
      refine wt_val (fun _ => rfl) ?_
      refine we_cal tk c_is_number hr rfl ?_
      refine wa_cons ?_
      refine we_var 2 rfl (by walk_at "vis") rfl ?_
      refine ⟨_, _, rfl, ?_⟩
      refine wa_cons ?_
      refine we_var 3 rfl (by walk_at "vis") rfl ?_
      refine ⟨_, _, rfl, ?_⟩
      refine wa_cons ?_
      refine we_globI rfl m_MAX_LENGTH ?_
      refine ⟨_, _, rfl, ?_⟩
      refine wa_nil ?_
      refine ⟨(x4.2, i6, (300 : Int)), rfl, ?_⟩
      refine ⟨_, rfl, ?_⟩
      exact ⟨rfl, rfl, rfl⟩
    refine ⟨fun hc => ?_, fun hc => ?_⟩
    · skip
      have h := (Out.iteb h).1 hc
      -- 80
      exact h.elim
    have h := (Out.iteb h).2 hc
    refine wb_nil ?_
    exact wb_nil ⟨(), (.eq (.no (.no (.no .nil)))), rfl, h⟩
  -- 81
  refine wb_cons (ws_if ?_)
  refine wt_cmp rfl ?_
  refine we_b1 (x := "len") (id := "len") rfl B.len bt_len ?_
  refine we_var 0 rfl (by walk_at "vis") rfl ?_
  refine ⟨_, .inl rfl, ?_⟩
  refine t_len (f := eI) distances1 ?_
  refine we_ktup kt_SIZES rfl ?_
  refine ⟨_, _, .inl rfl, .inl rfl, ?_⟩
  refine opw_ninT ?_
  refine ⟨_, rfl, ?_⟩
  refine ⟨fun hc => ?_, fun hc => ?_⟩
  · skip
    have h := (Out.iteb h).1 hc
    -- 82
    exact h.elim
  have h := (Out.iteb h).2 hc
  refine wb_nil ?_
  exact wb_nil h
theorem ok_less {f : Addr} {fd : FuncData} (F : Fun K "less" "less" s_less f fd) (B : Bn mg) : FnOk P w K mg base (L2.CX P w) 3 f fd ["left", "taken"] (spD K (FM cx (A := (List Int) × (List Int)) (R := Option (List Int)) (fun a => [(eL eI) a.1, (eL eI) a.2]) (fun v => .sh ((eO (eL eI)) v)) (fun a => m_less a.1 a.2))) := by
  refine def_ok F sc_less (fun ds G post px h => ?_) (fun cdv A outer s H E F0 T hr ds G post px h tk hp => ?_)
  · obtain ⟨_, rfl, _⟩ := h; rfl
  obtain ⟨⟨left1, taken2⟩, rfl, h⟩ := h
  unfold m_less at h
  try dsimp only at h
  have nd := sc_less.nd
  change WB _ _ [.sh ((eL eI) left1), .sh ((eL eI) taken2), .no, .no] _ _
  -- 84
  refine wb_cons ?_
  refine Hold.h ?_
  refine ws_setH 2 nd rfl (by walk_at "vis") ?_
  refine we_t1 (x := "list") (id := "list") rfl B.list bt_list ?_
  refine we_var 0 rfl (by walk_at "vis") rfl ?_
  refine ⟨_, .inl rfl, ?_⟩
  refine c_list ?_
  refine ⟨lt_ rfl, _, rfl, ?_⟩
  change WB _ _ [.sh ((eL eI) left1), .sh ((eL eI) taken2), .own ((eL eI) left1), .no] _ _
  -- 85
  refine Hold.h ?_
  refine wb_forRH (β := Option (List Int)) [3] (σT := List Int) (ρ := Option (List Int)) (fun s3 => [.sh ((eL eI) left1), .sh ((eL eI) taken2), .own ((eL eI) s3), .no]) (fun s3 => G) eI ((fun v => .sh ((eO (eL eI)) v))) (fun _ => G) hp rfl ?_
  refine ti_lst (f := eI) ?_
  refine we_var 1 rfl (by walk_at "vis") rfl ?_
  refine ⟨taken2, _, rfl, fun hl6 => ?_⟩
  refine ⟨taken2, left1, _, _, _, _, rfl, (.eq (.eq (.eq (.no .nil)))), rfl, h, fun s3 x5 Q' h => ?_, (fun v h => h), fun s4 h => ?_⟩
  · skip
    refine wg_name 3 nd rfl (by walk_at "vis") (by decide) (lt_ rfl) ?_
    change WB _ _ [.sh ((eL eI) left1), .sh ((eL eI) taken2), .own ((eL eI) s3), .sh (eI x5)] _ _
    -- 86
    refine wb_cons (ws_if ?_)
    refine wt_cmp rfl ?_
    refine we_var 3 rfl (by walk_at "vis") rfl ?_
    refine we_var 2 rfl (by walk_at "vis") rfl ?_
    refine ⟨_, _, .inl rfl, .inl rfl, ?_⟩
    refine opw_nin ?_
    refine ⟨_, rfl, ?_⟩
    refine ⟨fun hc => ?_, fun hc => ?_⟩
    · skip
      have h := (Out.iteb h).1 hc
      -- 87
      refine wb_cons (ws_ret ?_)
      refine we_non ?_
      refine ⟨_, rfl, ?_⟩
      exact ⟨none, rfl, rfl, h⟩
    have h := (Out.iteb h).2 hc
    refine wb_nil ?_
    -- 88
    refine wb_cons (ws_expr ?_)
    refine we_removeT ?_
    refine we_var 2 rfl (by walk_at "vis") rfl ?_
    refine ⟨_, s3, rfl, rfl, ?_⟩
    refine we_var 3 rfl (by walk_at "vis") rfl ?_
    obtain ⟨x8, hx8, h⟩ := Out.gt h
    refine ⟨x5, s3, x8, rfl, rfl, hx8, ?_⟩
    refine Hold.h ?_
    refine wb_letH h (fun found9 => [.sh ((eL eI) left1), .sh ((eL eI) taken2), .own ((eL eI) found9), .sh (eI x5)]) rfl fun found9 h => ?_
    exact wb_nil ⟨found9, (.eq (.eq (.eq (.no .nil)))), rfl, h⟩
  -- 89
  refine wb_cons (ws_ret ?_)
  refine we_frz ?_
  refine we_var 2 rfl (by walk_at "vis") rfl ?_
  refine ⟨_, _, rfl, ?_⟩
  refine ⟨_, rfl, ?_⟩
  exact h
theorem ok_grown_zero {f : Addr} {fd : FuncData} (F : Fun K "grown" "grown" s_grown f fd) (B : Bn mg) : FnOk P w K mg base (L2.CX P w) (5 + 2 * 0) f fd ["marks", "left"] (spD K (FM cx (A := (List Int) × (List Int)) (R := List (List Int)) (fun a => [(eT eI) a.1, (eL eI) a.2]) (fun v => .sh ((eL (eT eI)) v)) (fun a => m_grown 0 a.1 a.2))) := by
  refine def_ok F sc_grown (fun ds G post px h => ?_) (fun cdv A outer s H E F0 T hr ds G post px h tk hp => ?_)
  · obtain ⟨_, rfl, _⟩ := h; rfl
  obtain ⟨_, _, h⟩ := h; unfold m_grown at h; exact h.elim
theorem ok_grown {n : Nat} {f : Addr} {fd : FuncData} (F : Fun K "grown" "grown" s_grown f fd) (B : Bn mg) (c_less : Cal P w K mg base "less" 3 ["left", "taken"] (FM cx (A := (List Int) × (List Int)) (R := Option (List Int)) (fun a => [(eL eI) a.1, (eL eI) a.2]) (fun v => .sh ((eO (eL eI)) v)) (fun a => m_less a.1 a.2))) (c_grown : Cal P w K mg base "grown" (5 + 2 * n) ["marks", "left"] (FM cx (A := (List Int) × (List Int)) (R := List (List Int)) (fun a => [(eT eI) a.1, (eL eI) a.2]) (fun v => .sh ((eL (eT eI)) v)) (fun a => m_grown n a.1 a.2))) : FnOk P w K mg base (L2.CX P w) (5 + 2 * (n + 1)) f fd ["marks", "left"] (spD K (FM cx (A := (List Int) × (List Int)) (R := List (List Int)) (fun a => [(eT eI) a.1, (eL eI) a.2]) (fun v => .sh ((eL (eT eI)) v)) (fun a => m_grown (n + 1) a.1 a.2))) := by
  refine def_ok F sc_grown (fun ds G post px h => ?_) (fun cdv A outer s H E F0 T hr ds G post px h tk hp => ?_)
  · obtain ⟨_, rfl, _⟩ := h; rfl
  obtain ⟨⟨marks1, left2⟩, rfl, h⟩ := h
  replace hr := (show Room (5 + 2 * n + 1) _ from hr)
  unfold m_grown at h
  try dsimp only at h
  have nd := sc_grown.nd
  change WB _ _ [.sh ((eT eI) marks1), .sh ((eL eI) left2), .no, .no, .no, .no] _ _
  -- 96
  refine wb_cons (ws_if ?_)
  refine wt_cmp (nomark _) ?_
  refine we_var 1 rfl (by walk_at "vis") rfl ?_
  refine we_lst ?_
  refine wa_nil ?_
  refine ⟨by decide, ?_⟩
  refine ⟨_, _, .inl rfl, .inl rfl, ?_⟩
  refine opw_eqC (eqc_lst eqc_int) (by exact hr.units) left2 ([] : List Int) ?_
  refine ⟨_, rfl, ?_⟩
  refine ⟨fun hc => ?_, fun hc => ?_⟩
  · skip
    have h := (Out.iteb h).1 hc
    -- 97
    refine wb_cons (ws_ret ?_)
    refine we_frz ?_
    refine we_lst ?_
    refine wa_cons ?_
    refine we_var 0 rfl (by walk_at "vis") rfl ?_
    refine ⟨_, _, rfl, ?_⟩
    refine wa_nil ?_
    refine ⟨lt_ rfl, ?_⟩
    refine ⟨_, _, rfl, ?_⟩
    refine ⟨_, rfl, ?_⟩
    exact h
  have h := (Out.iteb h).2 hc
  refine wb_nil ?_
  -- 98
  refine wb_cons ?_
  refine Hold.h ?_
  refine ws_setH 2 nd rfl (by walk_at "vis") ?_
  refine we_lst ?_
  refine wa_nil ?_
  refine ⟨by decide, ?_⟩
  refine ⟨lt_ rfl, _, rfl, ?_⟩
  refine Hold.h ?_
  refine wb_letH h (fun found3 => [.sh ((eT eI) marks1), .sh ((eL eI) left2), .own ((eL (eT eI)) found3), .no, .no, .no]) rfl fun found3 h => ?_
  -- 99
  refine Hold.h ?_
  refine wb_forOH (β := List (List Int)) [3] (σT := List (List Int)) (fun s4 => [.sh ((eT eI) marks1), .sh ((eL eI) left2), .own ((eL (eT eI)) s4), .no, .no, .no]) (fun s4 => G) eI hp rfl ?_
  refine ti_lst (f := eI) ?_
  refine we_b1 (x := "sorted") (id := "sorted") rfl B.sorted bt_sorted ?_
  refine we_lock ?_
  refine we_dispT2 (k := kI) (f := eB) kI_inj ?_
  refine wpr_cons ?_
  refine we_ix (fun _ _ => rfl) ?_
  refine we_var 1 rfl (by walk_at "vis") rfl ?_
  refine we_un rfl ?_
  refine we_int ?_
  refine ⟨_, rfl, ?_⟩
  obtain ⟨x7, hx7, h⟩ := Out.gt h
  refine ⟨_, _, .inl rfl, .inl rfl, ?_⟩
  refine t_ix (f := eI) hx7 ?_
  refine ⟨x7, rfl, ?_⟩
  refine we_bl ?_
  refine ⟨true, _, rfl, ?_⟩
  refine wpr_cons ?_
  refine we_bin ?_
  refine we_ix (fun _ _ => rfl) ?_
  refine we_var 0 rfl (by walk_at "vis") rfl ?_
  refine we_un rfl ?_
  refine we_int ?_
  refine ⟨_, rfl, ?_⟩
  obtain ⟨x8, hx8, h⟩ := Out.gt h
  refine ⟨_, _, .inl rfl, .inl rfl, ?_⟩
  refine t_ixT (f := eI) hx8 ?_
  refine we_ix (fun _ _ => rfl) ?_
  refine we_var 1 rfl (by walk_at "vis") rfl ?_
  refine we_un rfl ?_
  refine we_int ?_
  refine ⟨_, rfl, ?_⟩
  obtain ⟨x9, hx9, h⟩ := Out.gt h
  refine ⟨_, _, .inl rfl, .inl rfl, ?_⟩
  refine t_ix (f := eI) hx9 ?_
  refine ⟨_, _, .inl rfl, .inl rfl, ?_⟩
  refine opw_sub ?_
  refine ⟨(x8 - x9), rfl, ?_⟩
  refine we_bl ?_
  refine ⟨true, _, rfl, ?_⟩
  refine wpr_nil ?_
  refine ⟨_, _, rfl, ?_⟩
  refine ⟨_, .inl rfl, ?_⟩
  refine t_sortedD (f := eB) (dmk [(x7, true), (x8 - x9, true)]) rfl ?_
  refine ⟨(isort ((dmk [(x7, true), (x8 - x9, true)]).map (·.1))), _, rfl, fun hl10 => ?_⟩
  refine ⟨(isort ((dmk [(x7, true), (x8 - x9, true)]).map (·.1))), found3, _, _, _, _, rfl, (.eq (.eq (.eq (.no (.no (.no .nil)))))), rfl, h, fun s4 x6 Q' h => ?_, fun s5 h => ?_⟩
  · skip
    refine wg_name 3 nd rfl (by walk_at "vis") (by decide) (lt_ rfl) ?_
    change WB _ _ [.sh ((eT eI) marks1), .sh ((eL eI) left2), .own ((eL (eT eI)) s4), .sh (eI x6), .no, .no] _ _
    -- 100
    refine wb_join (β := (List (List Int))) (σT := List (List Int)) (fun s11 => [.sh ((eT eI) marks1), .sh ((eL eI) left2), .own ((eL (eT eI)) s11), .sh (eI x6), .no, .no]) (fun s11 => G) h (fun Q' h => ?_) (fun s11 h => ?_)
    · skip
      refine ws_if ?_
      refine wt_w ?_
      refine ww_andB ?_
      refine wt_cmp rfl ?_
      refine we_var 3 rfl (by walk_at "vis") rfl ?_
      refine we_var 0 rfl (by walk_at "vis") rfl ?_
      refine ⟨_, _, .inl rfl, .inl rfl, ?_⟩
      refine opw_ninT ?_
      refine ⟨_, rfl, ?_⟩
      refine ⟨(decide ((0 : Int) < x6)), fun _ => ?_, ?_⟩
      · skip
        refine ww_and1 ?_
        refine wt_cmp (nomark _) ?_
        refine we_var 3 rfl (by walk_at "vis") rfl ?_
        refine we_int ?_
        refine ⟨_, _, .inl rfl, .inl rfl, ?_⟩
        refine opw_gt ?_
        refine ⟨_, rfl, ?_⟩
        exact ⟨rfl, rfl, rfl⟩
      refine ⟨fun hc => ?_, fun hc => ?_⟩
      · skip
        have h := (Out.iteb h).1 hc
        -- 101
        refine wb_cons ?_
        refine Hold.h ?_
        refine ws_setH 4 nd rfl (by walk_at "vis") ?_
        refine we_cal tk c_less hr rfl ?_
        refine wa_cons ?_
        refine we_var 1 rfl (by walk_at "vis") rfl ?_
        refine ⟨_, _, rfl, ?_⟩
        refine wa_cons ?_
        refine we_lcQ [("other", 5)] rfl nd (blkOk_by (by rfl)) (lc0_pre [("other", 5)] [.sh ((eT eI) marks1), .sh ((eL eI) left2), .own ((eL (eT eI)) s4), .sh (eI x6), .no, .no] (en := eI) eI (fun (x12 : Int) => if (x6 - x12) < 0 then -(x6 - x12) else (x6 - x12)) ?_)
        refine Hold.h ?_
        refine ti_tupH (f := eI) ?_
        refine we_var 0 rfl (by walk_at "vis") rfl ?_
        refine ⟨marks1, _, rfl, fun hl13 => ?_⟩
        refine ⟨marks1, rfl, hl13, Wk.refl _, fun x12 => ?_, ?_⟩
        · skip
          rintro Y ⟨s1, H1, C1, cl, fp, rfl⟩
          refine wg_name 5 nd rfl (by walk_at "vis") (by decide) (lt_ rfl) ?_
          rintro Y ⟨s1, H1, C1, cl, fp, rfl⟩
          refine we_b1 (x := "abs") (id := "abs") rfl B.abs bt_abs ?_
          refine we_bin ?_
          refine we_var 3 rfl (by walk_at "vis") rfl ?_
          refine we_var 5 rfl (by walk_at "vis") rfl ?_
          refine ⟨_, _, .inl rfl, .inl rfl, ?_⟩
          refine opw_sub ?_
          refine ⟨_, .inl rfl, ?_⟩
          refine c_abs ?_
          exact ⟨_, rfl, Wk.refl _, rfl⟩
        refine ⟨_, _, rfl, ?_⟩
        refine wa_nil ?_
        refine ⟨(left2, marks1.map (fun (x12 : Int) => if (x6 - x12) < 0 then -(x6 - x12) else (x6 - x12))), rfl, (Out.sb h).imp (fun r14 h => ?_) (fun _ he => he)⟩
        refine ⟨lt_ rfl, _, rfl, ?_⟩
        change WB _ _ [.sh ((eT eI) marks1), .sh ((eL eI) left2), .own ((eL (eT eI)) s4), .sh (eI x6), .sh ((eO (eL eI)) r14), .no] _ _
        -- 102
        refine wb_join (β := (List (List Int))) (σT := List (List Int)) (fun s15 => [.sh ((eT eI) marks1), .sh ((eL eI) left2), .own ((eL (eT eI)) s15), .sh (eI x6), .sh ((eO (eL eI)) r14), .no]) (fun s15 => G) h (fun Q' h => ?_) (fun s15 h => ?_)
        · skip
          refine ws_if ?_
          refine wt_cmp (nomark _) ?_
          refine we_var 4 rfl (by walk_at "vis") rfl ?_
          refine we_non ?_
          refine ⟨_, _, .inl rfl, .inl rfl, ?_⟩
          refine t_notN (fun _ => rfl) ?_
          refine ⟨_, rfl, ?_⟩
          refine ⟨fun hc => ?_, fun hc => ?_⟩
          · skip
            have h := (Out.iteb h).1 hc
            -- 103
            refine wb_cons (ws_expr ?_)
            refine we_extendT (f := (eT eI)) ?_
            refine we_var 2 rfl (by walk_at "vis") rfl ?_
            refine ⟨_, s4, rfl, rfl, ?_⟩
            refine we_cal tk c_grown hr rfl ?_
            refine wa_cons ?_
            refine we_t1 (x := "tuple") (id := "tuple") rfl B.tuple bt_tuple ?_
            refine we_b1 (x := "sorted") (id := "sorted") rfl B.sorted bt_sorted ?_
            refine we_lstS (f := eI) ?_
            refine wa_star ?_
            refine we_var 0 rfl (by walk_at "vis") rfl ?_
            refine ⟨_, _, _, rfl, .inl rfl, ?_⟩
            refine wa_cons ?_
            refine we_var 3 rfl (by walk_at "vis") rfl ?_
            refine ⟨_, _, rfl, ?_⟩
            refine wa_nil ?_
            obtain ⟨g17, h⟩ := Out.gd h
            refine ⟨(marks1 ++ [x6]), by simp, g17, ?_⟩
            refine ⟨_, .inl rfl, ?_⟩
            refine c_sorted (ns := (marks1 ++ [x6])) ?_
            refine ⟨_, .inl rfl, ?_⟩
            refine c_tuple ?_
            refine ⟨_, _, rfl, ?_⟩
            refine wa_cons ?_
            refine we_some (f := (eL eI)) ?_
            refine we_var 4 rfl (by walk_at "vis") rfl ?_
            obtain ⟨y18, hy18, h⟩ := Out.gt h
            refine ⟨r14, y18, rfl, hy18, ?_⟩
            refine ⟨_, _, rfl, ?_⟩
            refine wa_nil ?_
            refine ⟨(isort (marks1 ++ [x6]), y18), rfl, (Out.sb h).imp (fun r19 h => ?_) (fun _ he => he)⟩
            obtain ⟨g20, h⟩ := Out.gd h
            refine ⟨r19, _, s4, rfl, rfl, g20, ?_⟩
            refine Hold.h ?_
            refine wb_letH h (fun found21 => [.sh ((eT eI) marks1), .sh ((eL eI) left2), .own ((eL (eT eI)) found21), .sh (eI x6), .sh ((eO (eL eI)) r14), .no]) rfl fun found21 h => ?_
            exact wb_nil ⟨found21, (.eq (.eq (.eq (.eq (.eq (.no .nil)))))), rfl, h⟩
          have h := (Out.iteb h).2 hc
          exact wb_nil ⟨s4, (.eq (.eq (.eq (.eq (.eq (.no .nil)))))), rfl, h⟩
        exact wb_nil ⟨s15, (.eq (.eq (.eq (.eq (.no (.no .nil)))))), rfl, h⟩
      have h := (Out.iteb h).2 hc
      exact wb_nil ⟨s4, (.eq (.eq (.eq (.eq (.no (.no .nil)))))), rfl, h⟩
    exact wb_nil ⟨s11, (.eq (.eq (.eq (.no (.no (.no .nil)))))), rfl, h⟩
  -- 104
  refine wb_cons (ws_ret ?_)
  refine we_frz ?_
  refine we_var 2 rfl (by walk_at "vis") rfl ?_
  refine ⟨_, _, rfl, ?_⟩
  refine ⟨_, rfl, ?_⟩
  exact h
theorem cal_grown (n : Nat) {f : Addr} {fd : FuncData} (F : Fun K "grown" "grown" s_grown f fd) (B : Bn mg) (c_less : Cal P w K mg base "less" 3 ["left", "taken"] (FM cx (A := (List Int) × (List Int)) (R := Option (List Int)) (fun a => [(eL eI) a.1, (eL eI) a.2]) (fun v => .sh ((eO (eL eI)) v)) (fun a => m_less a.1 a.2))) (mgf : mg "grown" = some (.ref f)) (kp : PySem.W.keepIn K (.ref f) = true) (bd : L2.Binds K fd ["marks", "left"] []) : Cal P w K mg base "grown" (5 + 2 * n) ["marks", "left"] (FM cx (A := (List Int) × (List Int)) (R := List (List Int)) (fun a => [(eT eI) a.1, (eL eI) a.2]) (fun v => .sh ((eL (eT eI)) v)) (fun a => m_grown n a.1 a.2)) := by
  induction n with
  | zero => exact ⟨f, fd, ok_grown_zero F B, mgf, kp, bd⟩
  | succ n ih => exact ⟨f, fd, ok_grown F B c_less ih, mgf, kp, bd⟩
theorem ok_rulers_of {f : Addr} {fd : FuncData} (F : Fun K "rulers_of" "rulers_of" s_rulers_of f fd) (B : Bn mg) (c_grown : Cal P w K mg base "grown" 21 ["marks", "left"] (FM cx (A := (List Int) × (List Int)) (R := List (List Int)) (fun a => [(eT eI) a.1, (eL eI) a.2]) (fun v => .sh ((eL (eT eI)) v)) (fun a => m_grown 8 a.1 a.2))) (c_mirrored : Cal P w K mg base "mirrored" 3 ["marks"] (FM cx (A := List Int) (R := List Int) (fun a => [(eT eI) a]) (fun v => .sh ((eT eI) v)) (fun a => m_mirrored a))) (c_validate_distances : Cal P w K mg base "validate_distances" 5 ["distances"] (FM cx (A := List Int) (R := Unit) (fun a => [(eL eI) a]) (fun v => .sh (eU v)) (fun a => m_validate_distances a))) : FnOk P w K mg base (L2.CX P w) 23 f fd ["distances"] (spD K (FM cx (A := List Int) (R := List (List Int)) (fun a => [(eL eI) a]) (fun v => .fr ((eL (eT eI)) v)) (fun a => m_rulers_of a))) := by
  refine def_ok F sc_rulers_of (fun ds G post px h => ?_) (fun cdv A outer s H E F0 T hr ds G post px h tk hp => ?_)
  · obtain ⟨_, rfl, _⟩ := h; rfl
  obtain ⟨distances1, rfl, h⟩ := h
  unfold m_rulers_of at h
  try dsimp only at h
  have nd := sc_rulers_of.nd
  change WB _ _ [.sh ((eL eI) distances1), .no, .no, .no] _ _
  -- 91
  refine wb_cons (ws_expr ?_)
  refine we_cal tk c_validate_distances hr rfl ?_
  refine wa_cons ?_
  refine we_var 0 rfl (by walk_at "vis") rfl ?_
  refine ⟨_, _, rfl, ?_⟩
  refine wa_nil ?_
  refine ⟨distances1, rfl, (Out.sb h).imp (fun r2 h => ?_) (fun _ he => he)⟩
  -- 92
  refine wb_cons ?_
  refine Hold.h ?_
  refine ws_setH 1 nd rfl (by walk_at "vis") ?_
  refine we_ix (fun _ _ => rfl) ?_
  refine we_var 0 rfl (by walk_at "vis") rfl ?_
  refine we_un rfl ?_
  refine we_int ?_
  refine ⟨_, rfl, ?_⟩
  obtain ⟨x3, hx3, h⟩ := Out.gt h
  refine ⟨_, _, .inl rfl, .inl rfl, ?_⟩
  refine t_ix (f := eI) hx3 ?_
  refine ⟨lt_ rfl, _, rfl, ?_⟩
  change WB _ _ [.sh ((eL eI) distances1), .sh (eI x3), .no, .no] _ _
  -- 93
  refine wb_setKcQ [("marks", 3)] 2 rfl hr.units nd rfl rfl (by rfl) (blkOk_by (by rfl)) (kc0_pre [("marks", 3)] [.sh ((eL eI) distances1), .sh (eI x3), .no, .no] (en := (eT eI)) (eT eI) eB (kyc_of (kye_tup kye_int) (fun _ => ⟨_, rfl⟩)) (fun (x4 : List Int) => (x4, true)) ?_)
  refine ti_lst (f := (eT eI)) ?_
  refine we_cal tk c_grown hr rfl ?_
  refine wa_cons ?_
  refine we_tup ?_
  refine wa_cons ?_
  refine we_int ?_
  refine ⟨_, _, rfl, ?_⟩
  refine wa_cons ?_
  refine we_var 1 rfl (by walk_at "vis") rfl ?_
  refine ⟨_, _, rfl, ?_⟩
  refine wa_nil ?_
  refine ⟨lt_ rfl, ?_⟩
  refine ⟨_, _, rfl, ?_⟩
  refine wa_cons ?_
  refine we_t1 (x := "list") (id := "list") rfl B.list bt_list ?_
  refine we_slice ?_
  refine we_var 0 rfl (by walk_at "vis") rfl ?_
  refine wo_none ?_
  refine wo_some ?_
  refine we_un rfl ?_
  refine we_int ?_
  refine ⟨_, rfl, ?_⟩
  refine ⟨_, rfl, ?_⟩
  refine ⟨_, .inl rfl, ?_⟩
  refine t_sl (f := eI) (xs := distances1) ?_
  refine ⟨_, .inl rfl, ?_⟩
  refine c_list ?_
  refine ⟨_, _, rfl, ?_⟩
  refine wa_nil ?_
  refine ⟨([(0 : Int), x3], pcut distances1 none (some (-(1 : Int)))), rfl, (Out.sb h).imp (fun r5 h => ?_) (fun _ he => he)⟩
  refine ⟨r5, _, rfl, fun hl6 => ?_⟩
  refine ⟨r5, rfl, hl6, Wk.refl _, fun x4 => ?_, ?_⟩
  · skip
    rintro Y ⟨s1, H1, C1, cl, fp, rfl⟩
    refine wg_name 3 nd rfl (by walk_at "vis") (by decide) (lt_ rfl) ?_
    rintro Y ⟨s1, H1, C1, cl, fp, rfl⟩
    refine we_var 3 rfl (by walk_at "vis") rfl ?_
    refine ⟨rfl, ?_⟩
    rintro Y ⟨s1, H1, C1, cl, fp, rfl⟩
    refine we_bl ?_
    exact ⟨_, rfl, Wk.refl _, rfl⟩
  refine ⟨lt_ rfl, _, rfl, ?_⟩
  refine Hold.h ?_
  refine wb_letH h (fun found7 => [.sh ((eL eI) distances1), .sh (eI x3), .own ((eKd w (eT eI) eB) found7), .no]) rfl fun found7 h => ?_
  -- 94
  refine wb_cons (ws_ret ?_)
  refine we_b1 (x := "sorted") (id := "sorted") rfl B.sorted bt_sorted ?_
  refine we_lockK ?_
  refine we_mrgK (f := eB) (kyc_of (kye_tup kye_int) (fun _ => ⟨_, rfl⟩)) hr.units ?_
  refine we_lockVK ?_
  refine we_var 2 rfl (by walk_at "vis") rfl ?_
  refine ⟨_, _, _, _, rfl, rfl, ?_⟩
  obtain ⟨g8, h⟩ := Out.gd h
  refine ⟨found7, _, rfl, g8, ?_⟩
  refine we_lockK ?_
  refine we_kcQ [("marks", 3)] rfl hr.units nd (blkOk_by (by rfl)) (kcS_pre [("marks", 3)] [.sh ((eL eI) distances1), .sh (eI x3), .sh ((eKd w (eT eI) eB) found7), .no] (fun _ : Unit => G) (en := (eT eI)) (eT eI) eB (kyc_of (kye_tup kye_int) (fun _ => ⟨_, rfl⟩)) ?_)
  refine ti_keysK (ek := (eT eI)) (f := eB) ?_
  refine we_var 2 rfl (by walk_at "vis") rfl ?_
  refine ⟨found7, _, rfl, fun hl10 => ?_⟩
  refine ⟨_, (found7.map (·.1)), (), _, _, _, _, rfl, hl10, Wk.refl _, rfl, h, fun s11 x9 Q' h => ?_, fun l12 h => ?_⟩
  · skip
    rintro Y ⟨s1, H1, C1, cl, fp, rfl⟩
    refine wg_name 3 nd rfl (by walk_at "vis") (by decide) (lt_ rfl) ?_
    rintro Y ⟨s1, H1, C1, cl, fp, rfl⟩
    refine we_cal (BlkX.tk ⟨_, _, _, _, _, rfl⟩) c_mirrored hr rfl ?_
    refine wa_cons ?_
    refine we_var 3 rfl (by walk_at "vis") rfl ?_
    refine ⟨_, _, rfl, ?_⟩
    refine wa_nil ?_
    refine ⟨x9, rfl, (Out.nx (Out.sb h)).imp (fun r13 h => ?_) (fun _ he => he)⟩
    refine ⟨r13, rfl, ?_⟩
    rintro Y ⟨s1, H1, C1, cl, fp, rfl⟩
    refine we_bl ?_
    exact ⟨true, (), _, rfl, Wk.refl _, rfl, h⟩
  refine ⟨_, _, _, rfl, ?_⟩
  obtain ⟨g14, h⟩ := Out.gd h
  refine ⟨(dmk l12.1), _, rfl, g14, ?_⟩
  refine ⟨_, _, _, rfl, ?_⟩
  refine ⟨_, .inl rfl, ?_⟩
  obtain ⟨g15, h⟩ := Out.gd h
  refine t_sortedKd (f := eB) (kyc_of (kye_tup kye_int) (fun _ => ⟨_, rfl⟩)) (orc_tup orc_int) ?_ ?_ ((dmk l12.1).foldl (fun a p => dput a p.1 p.2) (dmk found7)) (so_tup g15) ?_
  · rfl
  · exact hr.units
  refine ⟨_, rfl, ?_⟩
  exact h
theorem ok_law_spans {f : Addr} {fd : FuncData} (F : Fun K "_law_spans" "_law_spans" s_law_spans f fd) (B : Bn mg) : FnOk P w K mg base (L2.CX P w) 3 f fd ["_law_marks"] (spD K (FM cx (A := List Int) (R := List Int) (fun a => [(eT eI) a]) (fun v => .fr ((eL eI) v)) (fun a => m_law_spans a))) := by
  refine def_ok F sc_law_spans (fun ds G post px h => ?_) (fun cdv A outer s H E F0 T hr ds G post px h tk hp => ?_)
  · obtain ⟨_, rfl, _⟩ := h; rfl
  obtain ⟨marks1, rfl, h⟩ := h
  unfold m_law_spans at h
  try dsimp only at h
  have nd := sc_law_spans.nd
  change WB _ _ [.sh ((eT eI) marks1), .no, .no, .no] _ _
  -- 164
  refine wb_cons ?_
  refine Hold.h ?_
  refine ws_setH 1 nd rfl (by walk_at "vis") ?_
  refine we_lst ?_
  refine wa_nil ?_
  refine ⟨by decide, ?_⟩
  refine ⟨lt_ rfl, _, rfl, ?_⟩
  refine Hold.h ?_
  refine wb_letH h (fun found2 => [.sh ((eT eI) marks1), .own ((eL eI) found2), .no, .no]) rfl fun found2 h => ?_
  -- 165
  refine Hold.h ?_
  refine wb_forOH (β := List Int) [2] (σT := List Int) (fun s3 => [.sh ((eT eI) marks1), .own ((eL eI) s3), .no, .no]) (fun s3 => G) eI hp rfl ?_
  refine wi_rng1 rfl B.range ?_
  refine we_b1 (x := "len") (id := "len") rfl B.len bt_len ?_
  refine we_var 0 rfl (by walk_at "vis") rfl ?_
  refine ⟨_, .inl rfl, ?_⟩
  refine t_lenT (f := eI) marks1 ?_
  obtain ⟨g6, h⟩ := Out.gd h
  refine ⟨((marks1).length : Int), rfl, g6, ?_⟩
  refine ⟨(rgI 0 ((marks1).length : Int)), found2, _, _, _, _, rfl, (.eq (.eq (.no (.no .nil)))), rfl, h, fun s3 x5 Q' h => ?_, fun s4 h => ?_⟩
  · skip
    refine wg_name 2 nd rfl (by walk_at "vis") (by decide) (lt_ rfl) ?_
    change WB _ _ [.sh ((eT eI) marks1), .own ((eL eI) s3), .sh (eI x5), .no] _ _
    -- 166
    refine wb_cons (ws_expr ?_)
    refine we_extendT (f := eI) ?_
    refine we_var 1 rfl (by walk_at "vis") rfl ?_
    refine ⟨_, s3, rfl, rfl, ?_⟩
    refine we_lcQ [("_law_mark", 3)] rfl nd (blkOk_by (by rfl)) (lcS_preP (γ := (List Int)) [("_law_mark", 3)] [.sh ((eT eI) marks1), .own ((eL eI) s3), .sh (eI x5), .no] (fun _ : Unit => G) (en := eI) eI ?_)
    refine Hold.h ?_
    refine ti_tupH (f := eI) ?_
    refine we_slice ?_
    refine we_var 0 rfl (by walk_at "vis") rfl ?_
    refine wo_some ?_
    refine we_bin ?_
    refine we_var 2 rfl (by walk_at "vis") rfl ?_
    refine we_int ?_
    refine ⟨_, _, .inl rfl, .inl rfl, ?_⟩
    refine opw_add ?_
    refine ⟨_, rfl, ?_⟩
    refine wo_none ?_
    refine ⟨_, .inl rfl, ?_⟩
    refine t_slT (f := eI) (xs := marks1) ?_
    refine ⟨(pcut marks1 (some (x5 + (1 : Int))) none), _, rfl, fun hl9 => ?_⟩
    refine ⟨(pcut marks1 (some (x5 + (1 : Int))) none), (), _, _, _, _, rfl, hl9, Wk.refl _, rfl, h, fun s10 x8 Q' h => ?_, fun l11 h => ?_⟩
    · skip
      rintro Y ⟨s1, H1, C1, cl, fp, rfl⟩
      refine wg_name 3 nd rfl (by walk_at "vis") (by decide) (lt_ rfl) ?_
      rintro Y ⟨s1, H1, C1, cl, fp, rfl⟩
      refine we_bin ?_
      refine we_var 3 rfl (by walk_at "vis") rfl ?_
      refine we_ix (fun _ _ => rfl) ?_
      refine we_var 0 rfl (by walk_at "vis") rfl ?_
      refine we_var 2 rfl (by walk_at "vis") rfl ?_
      obtain ⟨x12, hx12, h⟩ := Out.gt h
      refine ⟨_, _, .inl rfl, .inl rfl, ?_⟩
      refine t_ixT (f := eI) hx12 ?_
      refine ⟨_, _, .inl rfl, .inl rfl, ?_⟩
      refine opw_sub ?_
      exact ⟨(x8 - x12), (), _, rfl, Wk.refl _, rfl, h⟩
    obtain ⟨g13, h⟩ := Out.gd h
    refine ⟨l11.1, _, s3, rfl, rfl, g13, ?_⟩
    refine Hold.h ?_
    refine wb_letH h (fun found14 => [.sh ((eT eI) marks1), .own ((eL eI) found14), .sh (eI x5), .no]) rfl fun found14 h => ?_
    exact wb_nil ⟨found14, (.eq (.eq (.no (.no .nil)))), rfl, h⟩
  -- 167
  refine wb_cons (ws_ret ?_)
  refine we_b1 (x := "sorted") (id := "sorted") rfl B.sorted bt_sorted ?_
  refine we_var 1 rfl (by walk_at "vis") rfl ?_
  refine ⟨_, .inl rfl, ?_⟩
  refine c_sorted (ns := s4) ?_
  refine ⟨_, rfl, ?_⟩
  exact h
theorem ok_law_turned {f : Addr} {fd : FuncData} (F : Fun K "_law_turned" "_law_turned" s_law_turned f fd) (B : Bn mg) : FnOk P w K mg base (L2.CX P w) 3 f fd ["_law_marks"] (spD K (FM cx (A := List Int) (R := List Int) (fun a => [(eT eI) a]) (fun v => .sh ((eT eI) v)) (fun a => m_law_turned a))) := by
  refine def_ok F sc_law_turned (fun ds G post px h => ?_) (fun cdv A outer s H E F0 T hr ds G post px h tk hp => ?_)
  · obtain ⟨_, rfl, _⟩ := h; rfl
  obtain ⟨marks1, rfl, h⟩ := h
  unfold m_law_turned at h
  try dsimp only at h
  have nd := sc_law_turned.nd
  change WB _ _ [.sh ((eT eI) marks1), .no] _ _
  -- 169
  refine wb_cons (ws_ret ?_)
  refine we_t1 (x := "tuple") (id := "tuple") rfl B.tuple bt_tuple ?_
  refine we_lcQ [("_law_mark", 1)] rfl nd (blkOk_by (by rfl)) (lcS_preP (γ := List Int) [("_law_mark", 1)] [.sh ((eT eI) marks1), .no] (fun _ : Unit => G) (en := eI) eI ?_)
  refine Hold.h ?_
  refine ti_tupH (f := eI) ?_
  refine we_rvT ?_
  refine we_var 0 rfl (by walk_at "vis") rfl ?_
  refine ⟨(marks1).map eI, rfl, ?_⟩
  rw [← List.map_reverse]
  refine ⟨((marks1).reverse), _, rfl, fun hl3 => ?_⟩
  refine ⟨((marks1).reverse), (), _, _, _, _, rfl, hl3, Wk.refl _, rfl, h, fun s4 x2 Q' h => ?_, fun l5 h => ?_⟩
  · skip
    rintro Y ⟨s1, H1, C1, cl, fp, rfl⟩
    refine wg_name 1 nd rfl (by walk_at "vis") (by decide) (lt_ rfl) ?_
    rintro Y ⟨s1, H1, C1, cl, fp, rfl⟩
    refine we_bin ?_
    refine we_ix (fun _ _ => rfl) ?_
    refine we_var 0 rfl (by walk_at "vis") rfl ?_
    refine we_un rfl ?_
    refine we_int ?_
    refine ⟨_, rfl, ?_⟩
    obtain ⟨x6, hx6, h⟩ := Out.gt h
    refine ⟨_, _, .inl rfl, .inl rfl, ?_⟩
    refine t_ixT (f := eI) hx6 ?_
    refine we_var 1 rfl (by walk_at "vis") rfl ?_
    refine ⟨_, _, .inl rfl, .inl rfl, ?_⟩
    refine opw_sub ?_
    exact ⟨(x6 - x2), (), _, rfl, Wk.refl _, rfl, h⟩
  refine ⟨_, .inl rfl, ?_⟩
  refine c_tuple ?_
  refine ⟨_, rfl, ?_⟩
  exact h
theorem ok_law_long {f : Addr} {fd : FuncData} (F : Fun K "_law_long" "_law_long" s_law_long f fd) (B : Bn mg) : FnOk P w K mg base (L2.CX P w) 3 f fd ["_law_marks", "_law_times"] (spD K (FM cx (A := (List Int) × Int) (R := List Int) (fun a => [(eT eI) a.1, eI a.2]) (fun v => .sh ((eT eI) v)) (fun a => m_law_long a.1 a.2))) := by
  refine def_ok F sc_law_long (fun ds G post px h => ?_) (fun cdv A outer s H E F0 T hr ds G post px h tk hp => ?_)
  · obtain ⟨_, rfl, _⟩ := h; rfl
  obtain ⟨⟨marks1, times2⟩, rfl, h⟩ := h
  unfold m_law_long at h
  try dsimp only at h
  have nd := sc_law_long.nd
  change WB _ _ [.sh ((eT eI) marks1), .sh (eI times2), .no] _ _
  -- 171
  refine wb_cons (ws_ret ?_)
  refine we_t1 (x := "tuple") (id := "tuple") rfl B.tuple bt_tuple ?_
  refine we_lcQ [("_law_mark", 2)] rfl nd (blkOk_by (by rfl)) (lcS_preP (γ := List Int) [("_law_mark", 2)] [.sh ((eT eI) marks1), .sh (eI times2), .no] (fun _ : Unit => G) (en := eI) eI ?_)
  refine Hold.h ?_
  refine ti_tupH (f := eI) ?_
  refine we_var 0 rfl (by walk_at "vis") rfl ?_
  refine ⟨marks1, _, rfl, fun hl4 => ?_⟩
  refine ⟨marks1, (), _, _, _, _, rfl, hl4, Wk.refl _, rfl, h, fun s5 x3 Q' h => ?_, fun l6 h => ?_⟩
  · skip
    rintro Y ⟨s1, H1, C1, cl, fp, rfl⟩
    refine wg_name 2 nd rfl (by walk_at "vis") (by decide) (lt_ rfl) ?_
    rintro Y ⟨s1, H1, C1, cl, fp, rfl⟩
    refine we_bin ?_
    refine we_var 1 rfl (by walk_at "vis") rfl ?_
    refine we_var 2 rfl (by walk_at "vis") rfl ?_
    obtain ⟨g7, h⟩ := Out.gd h
    refine ⟨_, _, .inl rfl, .inl rfl, ?_⟩
    refine opw_mul (g7) ?_
    exact ⟨(times2 * x3), (), _, rfl, Wk.refl _, rfl, h⟩
  refine ⟨_, .inl rfl, ?_⟩
  refine c_tuple ?_
  refine ⟨_, rfl, ?_⟩
  exact h
theorem ok_law {f : Addr} {fd : FuncData} (F : Fun K "law" "law" s_law f fd) (B : Bn mg) (c_law_begun : Cal P w K mg base "_law_begun" 3 ["_law_script"] (FBegun m_law_begun)) (c_law_long : Cal P w K mg base "_law_long" 3 ["_law_marks", "_law_times"] (FM cx (A := (List Int) × Int) (R := List Int) (fun a => [(eT eI) a.1, eI a.2]) (fun v => .sh ((eT eI) v)) (fun a => m_law_long a.1 a.2))) (c_law_spans : Cal P w K mg base "_law_spans" 3 ["_law_marks"] (FM cx (A := List Int) (R := List Int) (fun a => [(eT eI) a]) (fun v => .fr ((eL eI) v)) (fun a => m_law_spans a))) (c_law_take : Cal P w K mg base "_law_take" 3 ["_law_box", "_law_many"] (FB (A := Int) (R := Int) (fun a => [eI a]) (fun v => .sh (eI v)) (fun a => m_law_take a))) (c_law_turned : Cal P w K mg base "_law_turned" 3 ["_law_marks"] (FM cx (A := List Int) (R := List Int) (fun a => [(eT eI) a]) (fun v => .sh ((eT eI) v)) (fun a => m_law_turned a))) (c_best_mark : Cal P w K mg base "best_mark" 8 ["ruler"] (FM cx (A := Rul) (R := Option (Int)) (fun a => [(eRul C_Ruler) a]) (fun v => .sh ((eO eI) v)) (fun a => m_best_mark a))) (c_fewest_marks : Cal P w K mg base "fewest_marks" 10 ["ruler", "most"] (FM cx (A := Rul × Int) (R := Option (List Int)) (fun a => [(eRul C_Ruler) a.1, eI a.2]) (fun v => .sh ((eO (eT eI)) v)) (fun a => m_fewest_marks a.1 a.2))) (c_is_sparse : Cal P w K mg base "is_sparse" 10 ["ruler"] (FM cx (A := Rul) (R := Bool) (fun a => [(eRul C_Ruler) a]) (fun v => .sh (eB v)) (fun a => m_is_sparse a))) (c_repeated : Cal P w K mg base "repeated" 8 ["ruler"] (FM cx (A := Rul) (R := List Int) (fun a => [(eRul C_Ruler) a]) (fun v => .fr ((eL eI) v)) (fun a => m_repeated a))) (c_rulers_of : Cal P w K mg base "rulers_of" 23 ["distances"] (FM cx (A := List Int) (R := List (List Int)) (fun a => [(eL eI) a]) (fun v => .fr ((eL (eT eI)) v)) (fun a => m_rulers_of a))) (d_Ruler_turned : MethD P w K mg base C_Ruler "turned" 8 ["self"] (FM cx (A := Rul) (R := Rul) (fun a => [(eRul C_Ruler) a]) (fun v => .sh ((eRul C_Ruler) v)) (fun a => m_Ruler_turned a))) (cl_Ruler : Cl_Ruler K C_Ruler) (k_Ruler : MakeD P w K mg base "Ruler" C_Ruler 5 ["self", "marks", "error"] (FMI cx (A := (List Int) × Int) (R := Rul) (fun a => [(eT eI) a.1, eI a.2]) (fun r => [.int r.error, .tup (r.marks.map D.int)]) (fun a => mk_Ruler a.1 a.2))) (p_Ruler_spans : PropD P w K mg base C_Ruler "spans" 5 (FM cx (A := Rul) (R := List Int) (fun a => [(eRul C_Ruler) a]) (fun v => .sh ((eT eI) v)) (fun a => m_Ruler_spans a))) (p_Ruler_spread : PropD P w K mg base C_Ruler "spread" 5 (FM cx (A := Rul) (R := List Int) (fun a => [(eRul C_Ruler) a]) (fun v => .sh ((eT eI) v)) (fun a => m_Ruler_spread a))) (x_Ruler_len : SpecD P w K mg base C_Ruler "__len__" 3 ["self"] (FM cx (A := Rul) (R := Int) (fun a => [(eRul C_Ruler) a]) (fun v => .sh (eI v)) (fun a => .ok (m_Ruler___len a)))) : FnOk P w K mg base (L2.CX P w) 25 f fd ["_law_script"] (spD K (FLaw m_law)) := by
  refine def_ok F sc_law (fun ds G post px h => ?_) (fun cdv A outer s H E F0 T hr ds G0 post px h tk hp => ?_)
  · obtain ⟨_, rfl, _⟩ := h; rfl
  obtain ⟨script1, rfl, h⟩ := h
  unfold m_law at h
  try dsimp only at h
  have nd := sc_law.nd
  obtain ⟨q_Ruler_0, sl_Ruler_0⟩ := cl_Ruler.s0
  obtain ⟨q_Ruler_1, sl_Ruler_1⟩ := cl_Ruler.s1
  change WB _ _ [.sh (D.scr script1), .no, .no, .no, .no, .no, .no, .no, .no, .no, .no, .no, .no, .no, .no] _ _
  -- 173
  refine wb_cons ?_
  refine Hold.h ?_
  refine ws_setH 1 nd rfl (by walk_at "vis") ?_
  refine we_cal tk c_law_begun hr rfl ?_
  refine wa_cons ?_
  refine we_var 0 rfl (by walk_at "vis") rfl ?_
  refine ⟨_, _, rfl, ?_⟩
  refine wa_nil ?_
  refine ⟨script1, rfl, fun b g hne hb0 hg0 => ?_⟩
  refine ⟨lt_ rfl, _, rfl, ?_⟩
  change WB _ _ [.sh (D.scr script1), .sh (.adr b), .no, .no, .no, .no, .no, .no, .no, .no, .no, .no, .no, .no, .no] _ _
  -- 174
  refine wb_cons ?_
  refine Hold.h ?_
  refine ws_setH 2 nd rfl (by walk_at "vis") ?_
  refine we_bin ?_
  refine we_int ?_
  refine we_cal tk c_law_take hr rfl ?_
  refine wa_cons ?_
  refine we_var 1 rfl (by walk_at "vis") rfl ?_
  refine ⟨_, _, rfl, ?_⟩
  refine wa_cons ?_
  refine we_int ?_
  refine ⟨_, _, rfl, ?_⟩
  refine wa_nil ?_
  refine ⟨(8 : Int), G0, b, g, (m_law_begun script1), hne, rfl, rfl, (Out.sb h).imp (fun r2 h => ?_) (fun _ he => he.elim)⟩
  refine ⟨_, _, .inl rfl, .inl rfl, ?_⟩
  refine opw_add ?_
  refine ⟨lt_ rfl, _, rfl, ?_⟩
  refine Hold.h ?_
  refine wb_letH h (fun times3 => [.sh (D.scr script1), .sh (.adr b), .sh (eI times3), .no, .no, .no, .no, .no, .no, .no, .no, .no, .no, .no, .no]) rfl fun times3 h => ?_
  -- 175
  refine wb_cons ?_
  refine Hold.h ?_
  refine ws_setH 3 nd rfl (by walk_at "vis") ?_
  refine we_lst ?_
  refine wa_cons ?_
  refine we_tup ?_
  refine wa_cons ?_
  refine we_int ?_
  refine ⟨_, _, rfl, ?_⟩
  refine wa_cons ?_
  refine we_int ?_
  refine ⟨_, _, rfl, ?_⟩
  refine wa_cons ?_
  refine we_int ?_
  refine ⟨_, _, rfl, ?_⟩
  refine wa_cons ?_
  refine we_int ?_
  refine ⟨_, _, rfl, ?_⟩
  refine wa_nil ?_
  refine ⟨lt_ rfl, ?_⟩
  refine ⟨_, _, rfl, ?_⟩
  refine wa_cons ?_
  refine we_tup ?_
  refine wa_cons ?_
  refine we_int ?_
  refine ⟨_, _, rfl, ?_⟩
  refine wa_cons ?_
  refine we_int ?_
  refine ⟨_, _, rfl, ?_⟩
  refine wa_cons ?_
  refine we_int ?_
  refine ⟨_, _, rfl, ?_⟩
  refine wa_cons ?_
  refine we_int ?_
  refine ⟨_, _, rfl, ?_⟩
  refine wa_cons ?_
  refine we_int ?_
  refine ⟨_, _, rfl, ?_⟩
  refine wa_nil ?_
  refine ⟨lt_ rfl, ?_⟩
  refine ⟨_, _, rfl, ?_⟩
  refine wa_cons ?_
  refine we_tup ?_
  refine wa_cons ?_
  refine we_int ?_
  refine ⟨_, _, rfl, ?_⟩
  refine wa_cons ?_
  refine we_int ?_
  refine ⟨_, _, rfl, ?_⟩
  refine wa_cons ?_
  refine we_int ?_
  refine ⟨_, _, rfl, ?_⟩
  refine wa_cons ?_
  refine we_int ?_
  refine ⟨_, _, rfl, ?_⟩
  refine wa_cons ?_
  refine we_int ?_
  refine ⟨_, _, rfl, ?_⟩
  refine wa_nil ?_
  refine ⟨lt_ rfl, ?_⟩
  refine ⟨_, _, rfl, ?_⟩
  refine wa_cons ?_
  refine we_tup ?_
  refine wa_cons ?_
  refine we_int ?_
  refine ⟨_, _, rfl, ?_⟩
  refine wa_cons ?_
  refine we_int ?_
  refine ⟨_, _, rfl, ?_⟩
  refine wa_cons ?_
  refine we_int ?_
  refine ⟨_, _, rfl, ?_⟩
  refine wa_cons ?_
  refine we_int ?_
  refine ⟨_, _, rfl, ?_⟩
  refine wa_cons ?_
  refine we_int ?_
  refine ⟨_, _, rfl, ?_⟩
  refine wa_cons ?_
  refine we_int ?_
  refine ⟨_, _, rfl, ?_⟩
  refine wa_nil ?_
  refine ⟨lt_ rfl, ?_⟩
  refine ⟨_, _, rfl, ?_⟩
  refine wa_cons ?_
  refine we_tup ?_
  refine wa_cons ?_
  refine we_int ?_
  refine ⟨_, _, rfl, ?_⟩
  refine wa_cons ?_
  refine we_int ?_
  refine ⟨_, _, rfl, ?_⟩
  refine wa_cons ?_
  refine we_int ?_
  refine ⟨_, _, rfl, ?_⟩
  refine wa_cons ?_
  refine we_int ?_
  refine ⟨_, _, rfl, ?_⟩
  refine wa_cons ?_
  refine we_int ?_
  refine ⟨_, _, rfl, ?_⟩
  refine wa_cons ?_
  refine we_int ?_
  refine ⟨_, _, rfl, ?_⟩
  refine wa_cons ?_
  refine we_int ?_
  refine ⟨_, _, rfl, ?_⟩
  refine wa_nil ?_
  refine ⟨lt_ rfl, ?_⟩
  refine ⟨_, _, rfl, ?_⟩
  refine wa_nil ?_
  refine ⟨lt_ rfl, ?_⟩
  refine ⟨lt_ rfl, _, rfl, ?_⟩
  refine Hold.h ?_
  refine wb_letH h (fun sparse4 => [.sh (D.scr script1), .sh (.adr b), .sh (eI times3), .own ((eL (eT eI)) sparse4), .no, .no, .no, .no, .no, .no, .no, .no, .no, .no, .no]) rfl fun sparse4 h => ?_
  -- 176
  refine wb_cons ?_
  refine Hold.h ?_
  refine ws_setH 4 nd rfl (by walk_at "vis") ?_
  refine we_ix (fun _ _ => rfl) ?_
  refine we_var 3 rfl (by walk_at "vis") rfl ?_
  refine we_cal tk c_law_take hr rfl ?_
  refine wa_cons ?_
  refine we_var 1 rfl (by walk_at "vis") rfl ?_
  refine ⟨_, _, rfl, ?_⟩
  refine wa_cons ?_
  refine we_int ?_
  refine ⟨_, _, rfl, ?_⟩
  refine wa_nil ?_
  refine ⟨(5 : Int), G0, b, g, r2.2, hne, rfl, rfl, (Out.sb h).imp (fun r5 h => ?_) (fun _ he => he.elim)⟩
  obtain ⟨x6, hx6, h⟩ := Out.gt h
  refine ⟨_, _, .inl rfl, .inl rfl, ?_⟩
  refine t_ix (f := (eT eI)) hx6 ?_
  refine ⟨lt_ rfl, _, rfl, ?_⟩
  change WB _ _ [.sh (D.scr script1), .sh (.adr b), .sh (eI times3), .own ((eL (eT eI)) sparse4), .sh ((eT eI) x6), .no, .no, .no, .no, .no, .no, .no, .no, .no, .no] _ _
  -- 177
  refine wb_cons ?_
  refine Hold.h ?_
  refine ws_setH 5 nd rfl (by walk_at "vis") ?_
  refine we_make tk k_Ruler hr rfl ?_
  refine wa_cons ?_
  refine we_cal tk c_law_long hr rfl ?_
  refine wa_cons ?_
  refine we_var 4 rfl (by walk_at "vis") rfl ?_
  refine ⟨_, _, rfl, ?_⟩
  refine wa_cons ?_
  refine we_var 2 rfl (by walk_at "vis") rfl ?_
  refine ⟨_, _, rfl, ?_⟩
  refine wa_nil ?_
  refine ⟨(x6, times3), rfl, (Out.sb h).imp (fun r7 h => ?_) (fun _ he => he.elim)⟩
  refine ⟨_, _, rfl, ?_⟩
  refine wa_cons ?_
  refine we_int ?_
  refine ⟨_, _, rfl, ?_⟩
  refine wa_nil ?_
  refine ⟨(r7, (0 : Int)), rfl, (Out.sb h).imp (fun r8 h => ?_) (fun _ he => he.elim)⟩
  refine ⟨lt_ rfl, _, rfl, ?_⟩
  change WB _ _ [.sh (D.scr script1), .sh (.adr b), .sh (eI times3), .own ((eL (eT eI)) sparse4), .sh ((eT eI) x6), .sh ((eRul C_Ruler) r8), .no, .no, .no, .no, .no, .no, .no, .no, .no] _ _
  -- 178
  refine wb_cons (ws_if ?_)
  refine wt_w ?_
  refine ww_orN ?_
  refine wt_not ?_
  refine wt_val (fun _ => rfl) ?_
  refine we_cal tk c_is_sparse hr rfl ?_
  refine wa_cons ?_
  refine we_var 5 rfl (by walk_at "vis") rfl ?_
  refine ⟨_, _, rfl, ?_⟩
  refine wa_nil ?_
  refine ⟨r8, rfl, (Out.sb h).imp (fun r10 h => ?_) (fun _ he => he.elim)⟩
  refine ⟨_, rfl, ?_⟩
  refine ⟨_, _, _, _, _, h, fun _ Q' h => ?_, fun c9 h => ?_⟩
  · skip
    refine ww_orN ?_
    refine wt_cmp (nomark _) ?_
    refine we_cal tk c_repeated hr rfl ?_
    refine wa_cons ?_
    refine we_var 5 rfl (by walk_at "vis") rfl ?_
    refine ⟨_, _, rfl, ?_⟩
    refine wa_nil ?_
    refine ⟨r8, rfl, (Out.sb h).imp (fun r12 h => ?_) (fun _ he => he.elim)⟩
    refine we_lst ?_
    refine wa_nil ?_
    refine ⟨by decide, ?_⟩
    refine ⟨_, _, .inl rfl, .inl rfl, ?_⟩
    refine opw_neC (eqc_lst eqc_int) hr.units r12 ([] : List Int) ?_
    refine ⟨_, rfl, ?_⟩
    refine ⟨_, _, _, _, _, h, fun _ Q' h => ?_, fun c11 h => ?_⟩
    · skip
      refine ww_or1 ?_
      refine wt_not ?_
      refine wt_val (fun _ => rfl) ?_
      refine we_cal tk c_is_sparse hr rfl ?_
      refine wa_cons ?_
      refine we_meth0 tk cl_Ruler.cls d_Ruler_turned hr ?_
      refine we_var 5 rfl (by walk_at "vis") rfl ?_
      refine ⟨_, rfl, ⟨r8, rfl, (Out.sb h).imp (fun r13 h => ?_) (fun _ he => he.elim)⟩⟩
      refine ⟨_, _, rfl, ?_⟩
      refine wa_nil ?_
      refine ⟨r13, rfl, (Out.sb h).imp (fun r14 h => ?_) (fun _ he => he.elim)⟩
      refine ⟨_, rfl, ?_⟩
      exact ⟨rfl, rfl, h⟩
    exact ⟨rfl, rfl, h⟩
  refine ⟨fun hc => ?_, fun hc => ?_⟩
  · skip
    have h := (Out.iteb h).1 hc
    -- 179
    refine wb_cons (ws_ret ?_)
    refine we_bl ?_
    refine ⟨_, rfl, ?_⟩
    exact h _
  have h := (Out.iteb h).2 hc
  refine wb_nil ?_
  -- 180
  refine wb_cons ?_
  refine Hold.h ?_
  refine ws_setH 6 nd rfl (by walk_at "vis") ?_
  refine we_cal tk c_rulers_of hr rfl ?_
  refine wa_cons ?_
  refine we_t1 (x := "list") (id := "list") rfl B.list bt_list ?_
  refine we_prop cl_Ruler.cls p_Ruler_spread hr ?_
  refine we_var 5 rfl (by walk_at "vis") rfl ?_
  refine ⟨_, rfl, r8, rfl, (Out.nx (Out.sb h)).imp (fun r15 h => ?_) (fun _ he => he)⟩
  refine ⟨_, .inl rfl, ?_⟩
  refine c_listT ?_
  refine ⟨_, _, rfl, ?_⟩
  refine wa_nil ?_
  refine ⟨r15, rfl, (Out.sb h).imp (fun r16 h => ?_) (fun _ he => he.elim)⟩
  refine ⟨lt_ rfl, _, rfl, ?_⟩
  change WB _ _ [.sh (D.scr script1), .sh (.adr b), .sh (eI times3), .own ((eL (eT eI)) sparse4), .sh ((eT eI) x6), .sh ((eRul C_Ruler) r8), .own ((eL (eT eI)) r16), .no, .no, .no, .no, .no, .no, .no, .no] _ _
  -- 181
  refine wb_cons (ws_if ?_)
  refine wt_w ?_
  refine ww_orN ?_
  refine wt_cmp rfl ?_
  refine we_cal tk c_law_long hr rfl ?_
  refine wa_cons ?_
  refine we_var 4 rfl (by walk_at "vis") rfl ?_
  refine ⟨_, _, rfl, ?_⟩
  refine wa_cons ?_
  refine we_var 2 rfl (by walk_at "vis") rfl ?_
  refine ⟨_, _, rfl, ?_⟩
  refine wa_nil ?_
  refine ⟨(x6, times3), rfl, (Out.sb h).imp (fun r18 h => ?_) (fun _ he => he.elim)⟩
  refine we_var 6 rfl (by walk_at "vis") rfl ?_
  refine ⟨_, _, .inl rfl, .inl rfl, ?_⟩
  refine t_ninM (eqc_tup eqc_int) (Room.u65 hr) r18 r16 ?_
  refine ⟨_, rfl, ?_⟩
  refine ⟨_, _, _, _, _, h, fun _ Q' h => ?_, fun c17 h => ?_⟩
  · skip
    refine ww_or1 ?_
    refine wt_cmp rfl ?_
    refine we_cal tk c_law_turned hr rfl ?_
    refine wa_cons ?_
    refine we_cal tk c_law_long hr rfl ?_
    refine wa_cons ?_
    refine we_var 4 rfl (by walk_at "vis") rfl ?_
    refine ⟨_, _, rfl, ?_⟩
    refine wa_cons ?_
    refine we_var 2 rfl (by walk_at "vis") rfl ?_
    refine ⟨_, _, rfl, ?_⟩
    refine wa_nil ?_
    refine ⟨(x6, times3), rfl, (Out.sb h).imp (fun r19 h => ?_) (fun _ he => he.elim)⟩
    refine ⟨_, _, rfl, ?_⟩
    refine wa_nil ?_
    refine ⟨r19, rfl, (Out.sb h).imp (fun r20 h => ?_) (fun _ he => he.elim)⟩
    refine we_var 6 rfl (by walk_at "vis") rfl ?_
    refine ⟨_, _, .inl rfl, .inl rfl, ?_⟩
    refine t_ninM (eqc_tup eqc_int) (Room.u65 hr) r20 r16 ?_
    refine ⟨_, rfl, ?_⟩
    exact ⟨rfl, rfl, h⟩
  refine ⟨fun hc => ?_, fun hc => ?_⟩
  · skip
    have h := (Out.iteb h).1 hc
    -- 182
    refine wb_cons (ws_ret ?_)
    refine we_bl ?_
    refine ⟨_, rfl, ?_⟩
    exact h _
  have h := (Out.iteb h).2 hc
  refine wb_nil ?_
  -- 183
  refine wb_cons ?_
  refine Hold.h ?_
  refine ws_parNH [7, 8] rfl (.cons (pg_name nd rfl (by walk_at "vis")) (.cons (pg_name nd rfl (by walk_at "vis")) .nil)) (fun t ht us => by simp only [List.mem_cons, List.not_mem_nil, or_false] at ht; rcases ht with rfl | rfl <;> rfl) ?_
  refine wn_cons ?_
  refine we_tup ?_
  refine wa_cons ?_
  refine we_int ?_
  refine ⟨_, _, rfl, ?_⟩
  refine wa_cons ?_
  refine we_int ?_
  refine ⟨_, _, rfl, ?_⟩
  refine wa_cons ?_
  refine we_int ?_
  refine ⟨_, _, rfl, ?_⟩
  refine wa_cons ?_
  refine we_int ?_
  refine ⟨_, _, rfl, ?_⟩
  refine wa_cons ?_
  refine we_int ?_
  refine ⟨_, _, rfl, ?_⟩
  refine wa_cons ?_
  refine we_int ?_
  refine ⟨_, _, rfl, ?_⟩
  refine wa_nil ?_
  refine ⟨lt_ rfl, ?_⟩
  refine ⟨_, _, rfl, ?_⟩
  refine wn_cons ?_
  refine we_tup ?_
  refine wa_cons ?_
  refine we_int ?_
  refine ⟨_, _, rfl, ?_⟩
  refine wa_cons ?_
  refine we_int ?_
  refine ⟨_, _, rfl, ?_⟩
  refine wa_cons ?_
  refine we_int ?_
  refine ⟨_, _, rfl, ?_⟩
  refine wa_cons ?_
  refine we_int ?_
  refine ⟨_, _, rfl, ?_⟩
  refine wa_cons ?_
  refine we_int ?_
  refine ⟨_, _, rfl, ?_⟩
  refine wa_cons ?_
  refine we_int ?_
  refine ⟨_, _, rfl, ?_⟩
  refine wa_nil ?_
  refine ⟨lt_ rfl, ?_⟩
  refine ⟨_, _, rfl, ?_⟩
  refine wn_nil ?_
  refine ⟨rfl, by show 2 ≤ 100; decide, all_lt (n := 15) rfl rfl, ?_⟩
  refine Hold.h ?_
  refine wb_letH h (fun one21 => [.sh (D.scr script1), .sh (.adr b), .sh (eI times3), .own ((eL (eT eI)) sparse4), .sh ((eT eI) x6), .sh ((eRul C_Ruler) r8), .own ((eL (eT eI)) r16), .sh ((eT eI) one21), .sh ((eT eI) [((0 : Int), (1 : Int), (8 : Int), (11 : Int), (13 : Int), (17 : Int)).1, ((0 : Int), (1 : Int), (8 : Int), (11 : Int), (13 : Int), (17 : Int)).2.1, ((0 : Int), (1 : Int), (8 : Int), (11 : Int), (13 : Int), (17 : Int)).2.2.1, ((0 : Int), (1 : Int), (8 : Int), (11 : Int), (13 : Int), (17 : Int)).2.2.2.1, ((0 : Int), (1 : Int), (8 : Int), (11 : Int), (13 : Int), (17 : Int)).2.2.2.2.1, ((0 : Int), (1 : Int), (8 : Int), (11 : Int), (13 : Int), (17 : Int)).2.2.2.2.2]), .no, .no, .no, .no, .no, .no]) rfl fun one21 h => ?_
  refine Hold.h ?_
  refine wb_letH h (fun other22 => [.sh (D.scr script1), .sh (.adr b), .sh (eI times3), .own ((eL (eT eI)) sparse4), .sh ((eT eI) x6), .sh ((eRul C_Ruler) r8), .own ((eL (eT eI)) r16), .sh ((eT eI) one21), .sh ((eT eI) other22), .no, .no, .no, .no, .no, .no]) rfl fun other22 h => ?_
  -- 184
  refine wb_cons ?_
  refine Hold.h ?_
  refine ws_setH 9 nd rfl (by walk_at "vis") ?_
  refine we_b1 (x := "sorted") (id := "sorted") rfl B.sorted bt_sorted ?_
  refine we_lcQ [("_law_some", 14)] rfl nd (blkOk_by (by rfl)) (lcS_preP (γ := Bool) [("_law_some", 14)] [.sh (D.scr script1), .sh (.adr b), .sh (eI times3), .own ((eL (eT eI)) sparse4), .sh ((eT eI) x6), .sh ((eRul C_Ruler) r8), .own ((eL (eT eI)) r16), .sh ((eT eI) one21), .sh ((eT eI) other22), .no, .no, .no, .no, .no, .no] (fun _ : Unit => bxG G0 b g r5.2) (en := (eT eI)) (eT eI) ?_)
  refine Hold.h ?_
  refine ti_tupH (f := (eT eI)) ?_
  refine we_tup ?_
  refine wa_cons ?_
  refine we_var 7 rfl (by walk_at "vis") rfl ?_
  refine ⟨_, _, rfl, ?_⟩
  refine wa_cons ?_
  refine we_var 8 rfl (by walk_at "vis") rfl ?_
  refine ⟨_, _, rfl, ?_⟩
  refine wa_cons ?_
  refine we_cal tk c_law_turned hr rfl ?_
  refine wa_cons ?_
  refine we_var 7 rfl (by walk_at "vis") rfl ?_
  refine ⟨_, _, rfl, ?_⟩
  refine wa_nil ?_
  refine ⟨one21, rfl, (Out.sb h).imp (fun r24 h => ?_) (fun _ he => he.elim)⟩
  refine ⟨_, _, rfl, ?_⟩
  refine wa_cons ?_
  refine we_cal tk c_law_turned hr rfl ?_
  refine wa_cons ?_
  refine we_var 8 rfl (by walk_at "vis") rfl ?_
  refine ⟨_, _, rfl, ?_⟩
  refine wa_nil ?_
  refine ⟨other22, rfl, (Out.sb h).imp (fun r25 h => ?_) (fun _ he => he.elim)⟩
  refine ⟨_, _, rfl, ?_⟩
  refine wa_nil ?_
  refine ⟨lt_ rfl, ?_⟩
  refine ⟨[one21, other22, r24, r25], _, rfl, fun hl26 => ?_⟩
  refine ⟨[one21, other22, r24, r25], (), _, _, _, _, rfl, hl26, Wk.refl _, rfl, h, fun s27 x23 Q' h => ?_, fun l28 h => ?_⟩
  · skip
    rintro Y ⟨s1, H1, C1, cl, fp, rfl⟩
    refine wg_name 14 nd rfl (by walk_at "vis") (by decide) (lt_ rfl) ?_
    rintro Y ⟨s1, H1, C1, cl, fp, rfl⟩
    refine we_cal (BlkX.tk ⟨_, _, _, _, _, rfl⟩) c_law_long hr rfl ?_
    refine wa_cons ?_
    refine we_var 14 rfl (by walk_at "vis") rfl ?_
    refine ⟨_, _, rfl, ?_⟩
    refine wa_cons ?_
    refine we_var 2 rfl (by walk_at "vis") rfl ?_
    refine ⟨_, _, rfl, ?_⟩
    refine wa_nil ?_
    refine ⟨(x23, times3), rfl, (Out.nx (Out.sb h)).imp (fun r29 h => ?_) (fun _ he => he)⟩
    exact ⟨r29, (), _, rfl, Wk.refl _, rfl, h⟩
  refine ⟨_, .inl rfl, ?_⟩
  obtain ⟨g30, h⟩ := Out.gd h
  refine t_sortedT01 (orc_tup orc_int) hr.units l28.1 g30 ?_
  refine ⟨lt_ rfl, _, rfl, ?_⟩
  refine Hold.h ?_
  refine wb_letH h (fun due31 => [.sh (D.scr script1), .sh (.adr b), .sh (eI times3), .own ((eL (eT eI)) sparse4), .sh ((eT eI) x6), .sh ((eRul C_Ruler) r8), .own ((eL (eT eI)) r16), .sh ((eT eI) one21), .sh ((eT eI) other22), .own ((eL (eT eI)) due31), .no, .no, .no, .no, .no]) rfl fun due31 h => ?_
  -- 185
  refine wb_cons (ws_if ?_)
  refine wt_cmp (nomark _) ?_
  refine we_cal tk c_rulers_of hr rfl ?_
  refine wa_cons ?_
  refine we_t1 (x := "list") (id := "list") rfl B.list bt_list ?_
  refine we_prop cl_Ruler.cls p_Ruler_spread hr ?_
  refine we_make tk k_Ruler hr rfl ?_
  refine wa_cons ?_
  refine we_cal tk c_law_long hr rfl ?_
  refine wa_cons ?_
  refine we_var 7 rfl (by walk_at "vis") rfl ?_
  refine ⟨_, _, rfl, ?_⟩
  refine wa_cons ?_
  refine we_var 2 rfl (by walk_at "vis") rfl ?_
  refine ⟨_, _, rfl, ?_⟩
  refine wa_nil ?_
  refine ⟨(one21, times3), rfl, (Out.sb h).imp (fun r32 h => ?_) (fun _ he => he.elim)⟩
  refine ⟨_, _, rfl, ?_⟩
  refine wa_cons ?_
  refine we_int ?_
  refine ⟨_, _, rfl, ?_⟩
  refine wa_nil ?_
  refine ⟨(r32, (0 : Int)), rfl, (Out.sb h).imp (fun r33 h => ?_) (fun _ he => he.elim)⟩
  refine ⟨_, rfl, r33, rfl, (Out.nx (Out.sb h)).imp (fun r34 h => ?_) (fun _ he => he)⟩
  refine ⟨_, .inl rfl, ?_⟩
  refine c_listT ?_
  refine ⟨_, _, rfl, ?_⟩
  refine wa_nil ?_
  refine ⟨r34, rfl, (Out.sb h).imp (fun r35 h => ?_) (fun _ he => he.elim)⟩
  refine we_var 9 rfl (by walk_at "vis") rfl ?_
  refine ⟨_, _, .inl rfl, .inl rfl, ?_⟩
  refine opw_neC (eqc_lst (eqc_tup eqc_int)) hr.units r35 due31 ?_
  refine ⟨_, rfl, ?_⟩
  refine ⟨fun hc => ?_, fun hc => ?_⟩
  · skip
    have h := (Out.iteb h).1 hc
    -- 186
    refine wb_cons (ws_ret ?_)
    refine we_bl ?_
    refine ⟨_, rfl, ?_⟩
    exact h _
  have h := (Out.iteb h).2 hc
  refine wb_nil ?_
  -- 187
  refine wb_cons (ws_if ?_)
  refine wt_cmp (nomark _) ?_
  refine we_cal tk c_rulers_of hr rfl ?_
  refine wa_cons ?_
  refine we_t1 (x := "list") (id := "list") rfl B.list bt_list ?_
  refine we_prop cl_Ruler.cls p_Ruler_spread hr ?_
  refine we_make tk k_Ruler hr rfl ?_
  refine wa_cons ?_
  refine we_cal tk c_law_long hr rfl ?_
  refine wa_cons ?_
  refine we_var 8 rfl (by walk_at "vis") rfl ?_
  refine ⟨_, _, rfl, ?_⟩
  refine wa_cons ?_
  refine we_var 2 rfl (by walk_at "vis") rfl ?_
  refine ⟨_, _, rfl, ?_⟩
  refine wa_nil ?_
  refine ⟨(other22, times3), rfl, (Out.sb h).imp (fun r36 h => ?_) (fun _ he => he.elim)⟩
  refine ⟨_, _, rfl, ?_⟩
  refine wa_cons ?_
  refine we_int ?_
  refine ⟨_, _, rfl, ?_⟩
  refine wa_nil ?_
  refine ⟨(r36, (0 : Int)), rfl, (Out.sb h).imp (fun r37 h => ?_) (fun _ he => he.elim)⟩
  refine ⟨_, rfl, r37, rfl, (Out.nx (Out.sb h)).imp (fun r38 h => ?_) (fun _ he => he)⟩
  refine ⟨_, .inl rfl, ?_⟩
  refine c_listT ?_
  refine ⟨_, _, rfl, ?_⟩
  refine wa_nil ?_
  refine ⟨r38, rfl, (Out.sb h).imp (fun r39 h => ?_) (fun _ he => he.elim)⟩
  refine we_var 9 rfl (by walk_at "vis") rfl ?_
  refine ⟨_, _, .inl rfl, .inl rfl, ?_⟩
  refine opw_neC (eqc_lst (eqc_tup eqc_int)) hr.units r39 due31 ?_
  refine ⟨_, rfl, ?_⟩
  refine ⟨fun hc => ?_, fun hc => ?_⟩
  · skip
    have h := (Out.iteb h).1 hc
    -- 188
    refine wb_cons (ws_ret ?_)
    refine we_bl ?_
    refine ⟨_, rfl, ?_⟩
    exact h _
  have h := (Out.iteb h).2 hc
  refine wb_nil ?_
  -- 189
  refine wb_cons ?_
  refine Hold.h ?_
  refine ws_setH 9 nd rfl (by walk_at "vis") ?_
  refine we_lst ?_
  refine wa_cons ?_
  refine we_cal tk c_law_long hr rfl ?_
  refine wa_cons ?_
  refine we_tup ?_
  refine wa_cons ?_
  refine we_int ?_
  refine ⟨_, _, rfl, ?_⟩
  refine wa_cons ?_
  refine we_int ?_
  refine ⟨_, _, rfl, ?_⟩
  refine wa_cons ?_
  refine we_int ?_
  refine ⟨_, _, rfl, ?_⟩
  refine wa_cons ?_
  refine we_int ?_
  refine ⟨_, _, rfl, ?_⟩
  refine wa_nil ?_
  refine ⟨lt_ rfl, ?_⟩
  refine ⟨_, _, rfl, ?_⟩
  refine wa_cons ?_
  refine we_var 2 rfl (by walk_at "vis") rfl ?_
  refine ⟨_, _, rfl, ?_⟩
  refine wa_nil ?_
  refine ⟨([(0 : Int), (1 : Int), (4 : Int), (6 : Int)], times3), rfl, (Out.sb h).imp (fun r40 h => ?_) (fun _ he => he.elim)⟩
  refine ⟨_, _, rfl, ?_⟩
  refine wa_cons ?_
  refine we_cal tk c_law_long hr rfl ?_
  refine wa_cons ?_
  refine we_tup ?_
  refine wa_cons ?_
  refine we_int ?_
  refine ⟨_, _, rfl, ?_⟩
  refine wa_cons ?_
  refine we_int ?_
  refine ⟨_, _, rfl, ?_⟩
  refine wa_cons ?_
  refine we_int ?_
  refine ⟨_, _, rfl, ?_⟩
  refine wa_cons ?_
  refine we_int ?_
  refine ⟨_, _, rfl, ?_⟩
  refine wa_nil ?_
  refine ⟨lt_ rfl, ?_⟩
  refine ⟨_, _, rfl, ?_⟩
  refine wa_cons ?_
  refine we_var 2 rfl (by walk_at "vis") rfl ?_
  refine ⟨_, _, rfl, ?_⟩
  refine wa_nil ?_
  refine ⟨([(0 : Int), (2 : Int), (5 : Int), (6 : Int)], times3), rfl, (Out.sb h).imp (fun r41 h => ?_) (fun _ he => he.elim)⟩
  refine ⟨_, _, rfl, ?_⟩
  refine wa_nil ?_
  refine ⟨lt_ rfl, ?_⟩
  refine ⟨lt_ rfl, _, rfl, ?_⟩
  refine Hold.h ?_
  refine wb_letH h (fun due42 => [.sh (D.scr script1), .sh (.adr b), .sh (eI times3), .own ((eL (eT eI)) sparse4), .sh ((eT eI) x6), .sh ((eRul C_Ruler) r8), .own ((eL (eT eI)) r16), .sh ((eT eI) one21), .sh ((eT eI) other22), .own ((eL (eT eI)) due42), .no, .no, .no, .no, .no]) rfl fun due42 h => ?_
  -- 190
  refine wb_cons (ws_if ?_)
  refine wt_cmp (nomark _) ?_
  refine we_cal tk c_rulers_of hr rfl ?_
  refine wa_cons ?_
  refine we_cal tk c_law_spans hr rfl ?_
  refine wa_cons ?_
  refine we_cal tk c_law_long hr rfl ?_
  refine wa_cons ?_
  refine we_tup ?_
  refine wa_cons ?_
  refine we_int ?_
  refine ⟨_, _, rfl, ?_⟩
  refine wa_cons ?_
  refine we_int ?_
  refine ⟨_, _, rfl, ?_⟩
  refine wa_cons ?_
  refine we_int ?_
  refine ⟨_, _, rfl, ?_⟩
  refine wa_cons ?_
  refine we_int ?_
  refine ⟨_, _, rfl, ?_⟩
  refine wa_nil ?_
  refine ⟨lt_ rfl, ?_⟩
  refine ⟨_, _, rfl, ?_⟩
  refine wa_cons ?_
  refine we_var 2 rfl (by walk_at "vis") rfl ?_
  refine ⟨_, _, rfl, ?_⟩
  refine wa_nil ?_
  refine ⟨([(0 : Int), (1 : Int), (4 : Int), (6 : Int)], times3), rfl, (Out.sb h).imp (fun r43 h => ?_) (fun _ he => he.elim)⟩
  refine ⟨_, _, rfl, ?_⟩
  refine wa_nil ?_
  refine ⟨r43, rfl, (Out.sb h).imp (fun r44 h => ?_) (fun _ he => he.elim)⟩
  refine ⟨_, _, rfl, ?_⟩
  refine wa_nil ?_
  refine ⟨r44, rfl, (Out.sb h).imp (fun r45 h => ?_) (fun _ he => he.elim)⟩
  refine we_var 9 rfl (by walk_at "vis") rfl ?_
  refine ⟨_, _, .inl rfl, .inl rfl, ?_⟩
  refine opw_neC (eqc_lst (eqc_tup eqc_int)) hr.units r45 due42 ?_
  refine ⟨_, rfl, ?_⟩
  refine ⟨fun hc => ?_, fun hc => ?_⟩
  · skip
    have h := (Out.iteb h).1 hc
    -- 191
    refine wb_cons (ws_ret ?_)
    refine we_bl ?_
    refine ⟨_, rfl, ?_⟩
    exact h _
  have h := (Out.iteb h).2 hc
  refine wb_nil ?_
  -- 192
  refine Hold.h ?_
  refine wb_forRH (β := Bool) [10, 11, 12] (σT := Unit) (ρ := (Bool × Bx)) (fun s46 => [.sh (D.scr script1), .sh (.adr b), .sh (eI times3), .own ((eL (eT eI)) sparse4), .sh ((eT eI) x6), .sh ((eRul C_Ruler) r8), .own ((eL (eT eI)) r16), .sh ((eT eI) one21), .sh ((eT eI) other22), .own ((eL (eT eI)) due42), .no, .no, .no, .no, .no]) (fun s46 => bxG G0 b g r5.2) (eP3 eI eI (eO (eT eI))) (fun v => (fun v => .sh (eB v)) v.1) (fun v => bxG G0 b g v.2) hp rfl ?_
  refine Hold.h ?_
  refine ti_tupH (f := (eP3 eI eI (eO (eT eI)))) ?_
  refine we_tup ?_
  refine wa_cons ?_
  refine we_tup ?_
  refine wa_cons ?_
  refine we_int ?_
  refine ⟨_, _, rfl, ?_⟩
  refine wa_cons ?_
  refine we_int ?_
  refine ⟨_, _, rfl, ?_⟩
  refine wa_cons ?_
  refine we_tup ?_
  refine wa_cons ?_
  refine we_int ?_
  refine ⟨_, _, rfl, ?_⟩
  refine wa_cons ?_
  refine we_int ?_
  refine ⟨_, _, rfl, ?_⟩
  refine wa_nil ?_
  refine ⟨lt_ rfl, ?_⟩
  refine ⟨_, _, rfl, ?_⟩
  refine wa_nil ?_
  refine ⟨lt_ rfl, ?_⟩
  refine ⟨_, _, rfl, ?_⟩
  refine wa_cons ?_
  refine we_tup ?_
  refine wa_cons ?_
  refine we_int ?_
  refine ⟨_, _, rfl, ?_⟩
  refine wa_cons ?_
  refine we_int ?_
  refine ⟨_, _, rfl, ?_⟩
  refine wa_cons ?_
  refine we_tup ?_
  refine wa_cons ?_
  refine we_int ?_
  refine ⟨_, _, rfl, ?_⟩
  refine wa_nil ?_
  refine ⟨lt_ rfl, ?_⟩
  refine ⟨_, _, rfl, ?_⟩
  refine wa_nil ?_
  refine ⟨lt_ rfl, ?_⟩
  refine ⟨_, _, rfl, ?_⟩
  refine wa_cons ?_
  refine we_tup ?_
  refine wa_cons ?_
  refine we_int ?_
  refine ⟨_, _, rfl, ?_⟩
  refine wa_cons ?_
  refine we_int ?_
  refine ⟨_, _, rfl, ?_⟩
  refine wa_cons ?_
  refine we_tup ?_
  refine wa_cons ?_
  refine we_int ?_
  refine ⟨_, _, rfl, ?_⟩
  refine wa_cons ?_
  refine we_int ?_
  refine ⟨_, _, rfl, ?_⟩
  refine wa_cons ?_
  refine we_int ?_
  refine ⟨_, _, rfl, ?_⟩
  refine wa_nil ?_
  refine ⟨lt_ rfl, ?_⟩
  refine ⟨_, _, rfl, ?_⟩
  refine wa_nil ?_
  refine ⟨lt_ rfl, ?_⟩
  refine ⟨_, _, rfl, ?_⟩
  refine wa_cons ?_
  refine we_tup ?_
  refine wa_cons ?_
  refine we_int ?_
  refine ⟨_, _, rfl, ?_⟩
  refine wa_cons ?_
  refine we_int ?_
  refine ⟨_, _, rfl, ?_⟩
  refine wa_cons ?_
  refine we_tup ?_
  refine wa_nil ?_
  refine ⟨by decide, ?_⟩
  refine ⟨_, _, rfl, ?_⟩
  refine wa_nil ?_
  refine ⟨lt_ rfl, ?_⟩
  refine ⟨_, _, rfl, ?_⟩
  refine wa_cons ?_
  refine we_tup ?_
  refine wa_cons ?_
  refine we_int ?_
  refine ⟨_, _, rfl, ?_⟩
  refine wa_cons ?_
  refine we_int ?_
  refine ⟨_, _, rfl, ?_⟩
  refine wa_cons ?_
  refine we_non ?_
  refine ⟨_, _, rfl, ?_⟩
  refine wa_nil ?_
  refine ⟨lt_ rfl, ?_⟩
  refine ⟨_, _, rfl, ?_⟩
  refine wa_nil ?_
  refine ⟨lt_ rfl, ?_⟩
  refine ⟨([((6 : Int), (6 : Int), some [(1 : Int), (4 : Int)]), ((3 : Int), (3 : Int), some [(1 : Int)]), ((9 : Int), (9 : Int), some [(1 : Int), (2 : Int), (6 : Int)]), ((1 : Int), (1 : Int), some ([] : List Int)), ((13 : Int), (13 : Int), none)] : List ((Int × Int × Option (List Int)))), _, rfl, fun hl49 => ?_⟩
  refine ⟨([((6 : Int), (6 : Int), some [(1 : Int), (4 : Int)]), ((3 : Int), (3 : Int), some [(1 : Int)]), ((9 : Int), (9 : Int), some [(1 : Int), (2 : Int), (6 : Int)]), ((1 : Int), (1 : Int), some ([] : List Int)), ((13 : Int), (13 : Int), none)] : List ((Int × Int × Option (List Int)))), (), _, _, _, _, rfl, (.eq (.eq (.eq (.eq (.eq (.eq (.eq (.eq (.eq (.eq (.no (.no (.no (.no (.no .nil))))))))))))))), rfl, h, fun s46 x48 Q' h => ?_, (fun v h => h _), fun s47 h => ?_⟩
  · skip
    refine wg_trip 10 11 12 rfl nd rfl rfl rfl (by walk_at "vis") (by walk_at "vis") (by walk_at "vis") (by decide) (by decide) (by decide) (lt_ rfl) (lt_ rfl) (lt_ rfl) ?_
    change WB _ _ [.sh (D.scr script1), .sh (.adr b), .sh (eI times3), .own ((eL (eT eI)) sparse4), .sh ((eT eI) x6), .sh ((eRul C_Ruler) r8), .own ((eL (eT eI)) r16), .sh ((eT eI) one21), .sh ((eT eI) other22), .own ((eL (eT eI)) due42), .sh (eI x48.1), .sh (eI x48.2.1), .sh ((eO (eT eI)) x48.2.2), .no, .no] _ _
    -- 193
    refine wb_cons (ws_if ?_)
    refine wt_cmp (nomark _) ?_
    refine we_cal tk c_fewest_marks hr rfl ?_
    refine wa_cons ?_
    refine we_make tk k_Ruler hr rfl ?_
    refine wa_cons ?_
    refine we_tup ?_
    refine wa_cons ?_
    refine we_int ?_
    refine ⟨_, _, rfl, ?_⟩
    refine wa_cons ?_
    refine we_var 10 rfl (by walk_at "vis") rfl ?_
    refine ⟨_, _, rfl, ?_⟩
    refine wa_nil ?_
    refine ⟨lt_ rfl, ?_⟩
    refine ⟨_, _, rfl, ?_⟩
    refine wa_cons ?_
    refine we_int ?_
    refine ⟨_, _, rfl, ?_⟩
    refine wa_nil ?_
    refine ⟨([(0 : Int), x48.1], (0 : Int)), rfl, (Out.sb h).imp (fun r50 h => ?_) (fun _ he => he.elim)⟩
    refine ⟨_, _, rfl, ?_⟩
    refine wa_cons ?_
    refine we_var 11 rfl (by walk_at "vis") rfl ?_
    refine ⟨_, _, rfl, ?_⟩
    refine wa_nil ?_
    refine ⟨(r50, x48.2.1), rfl, (Out.sb h).imp (fun r51 h => ?_) (fun _ he => he.elim)⟩
    refine we_var 12 rfl (by walk_at "vis") rfl ?_
    refine ⟨_, _, .inl rfl, .inl rfl, ?_⟩
    refine opw_neC (eqc_opt (eqc_tup eqc_int) (fun _ => rfl) (fun _ => rfl)) hr.units r51 x48.2.2 ?_
    refine ⟨_, rfl, ?_⟩
    refine ⟨fun hc => ?_, fun hc => ?_⟩
    · skip
      have h := (Out.iteb h).1 hc
      -- 194
      refine wb_cons (ws_ret ?_)
      refine we_bl ?_
      refine ⟨_, rfl, ?_⟩
      exact ⟨(false, r5.2), rfl, rfl, h⟩
    have h := (Out.iteb h).2 hc
    refine wb_nil ?_
    exact wb_nil ⟨(), (.eq (.eq (.eq (.eq (.eq (.eq (.eq (.eq (.eq (.eq (.no (.no (.no (.no (.no .nil))))))))))))))), rfl, h⟩
  -- 195
  refine wb_cons ?_
  refine Hold.h ?_
  refine ws_setH 13 nd rfl (by walk_at "vis") ?_
  refine we_make tk k_Ruler hr rfl ?_
  refine wa_cons ?_
  refine we_cal tk c_law_long hr rfl ?_
  refine wa_cons ?_
  refine we_tupR1 rfl rfl B.tuple rfl B.range ?_
  refine we_bin ?_
  refine we_int ?_
  refine we_cal tk c_law_take hr rfl ?_
  refine wa_cons ?_
  refine we_var 1 rfl (by walk_at "vis") rfl ?_
  refine ⟨_, _, rfl, ?_⟩
  refine wa_cons ?_
  refine we_int ?_
  refine ⟨_, _, rfl, ?_⟩
  refine wa_nil ?_
  refine ⟨(8 : Int), G0, b, g, r5.2, hne, rfl, rfl, (Out.sb h).imp (fun r52 h => ?_) (fun _ he => he.elim)⟩
  refine ⟨_, _, .inl rfl, .inl rfl, ?_⟩
  refine opw_add ?_
  obtain ⟨g53, h⟩ := Out.gd h
  refine ⟨_, rfl, g53, ?_⟩
  refine ⟨_, _, rfl, ?_⟩
  refine wa_cons ?_
  refine we_var 2 rfl (by walk_at "vis") rfl ?_
  refine ⟨_, _, rfl, ?_⟩
  refine wa_nil ?_
  refine ⟨(rgI 0 ((5 : Int) + r52.1), times3), rfl, (Out.sb h).imp (fun r54 h => ?_) (fun _ he => he.elim)⟩
  refine ⟨_, _, rfl, ?_⟩
  refine wa_cons ?_
  refine we_int ?_
  refine ⟨_, _, rfl, ?_⟩
  refine wa_nil ?_
  refine ⟨(r54, (0 : Int)), rfl, (Out.sb h).imp (fun r55 h => ?_) (fun _ he => he.elim)⟩
  refine ⟨lt_ rfl, _, rfl, ?_⟩
  change WB _ _ [.sh (D.scr script1), .sh (.adr b), .sh (eI times3), .own ((eL (eT eI)) sparse4), .sh ((eT eI) x6), .sh ((eRul C_Ruler) r8), .own ((eL (eT eI)) r16), .sh ((eT eI) one21), .sh ((eT eI) other22), .own ((eL (eT eI)) due42), .no, .no, .no, .sh ((eRul C_Ruler) r55), .no] _ _
  -- 196
  refine wb_cons (ws_if ?_)
  refine wt_w ?_
  refine ww_orN ?_
  refine wt_cmp (nomark _) ?_
  refine we_b1 (x := "len") (id := "len") rfl B.len bt_len ?_
  refine we_prop cl_Ruler.cls p_Ruler_spans hr ?_
  refine we_var 13 rfl (by walk_at "vis") rfl ?_
  refine ⟨_, rfl, r55, rfl, (Out.nx (Out.sb h)).imp (fun r57 h => ?_) (fun _ he => he)⟩
  refine ⟨_, .inl rfl, ?_⟩
  refine t_lenT (f := eI) r57 ?_
  refine we_bin ?_
  refine we_b1 (x := "len") (id := "len") rfl B.len bt_len ?_
  refine we_var 13 rfl (by walk_at "vis") rfl ?_
  refine ⟨_, .inl rfl, ?_⟩
  obtain ⟨g58, h⟩ := Out.gd h
  refine c_lenI x_Ruler_len hr (fun G_ => ⟨r55, rfl, rfl, _, rfl, g58, ?_⟩)
  refine we_int ?_
  refine ⟨_, _, .inl rfl, .inl rfl, ?_⟩
  refine opw_sub ?_
  refine ⟨_, _, .inl rfl, .inl rfl, ?_⟩
  refine opw_neI ?_
  refine ⟨_, rfl, ?_⟩
  refine ⟨_, _, _, _, _, h, fun _ Q' h => ?_, fun c56 h => ?_⟩
  · skip
    refine ww_orN ?_
    refine wt_val (fun _ => rfl) ?_
    refine we_cal tk c_is_sparse hr rfl ?_
    refine wa_cons ?_
    refine we_var 13 rfl (by walk_at "vis") rfl ?_
    refine ⟨_, _, rfl, ?_⟩
    refine wa_nil ?_
    refine ⟨r55, rfl, (Out.sb h).imp (fun r60 h => ?_) (fun _ he => he.elim)⟩
    refine ⟨_, rfl, ?_⟩
    refine ⟨_, _, _, _, _, h, fun _ Q' h => ?_, fun c59 h => ?_⟩
    · skip
      refine ww_or1 ?_
      refine wt_cmp (nomark _) ?_
      refine we_cal tk c_repeated hr rfl ?_
      refine wa_cons ?_
      refine we_var 13 rfl (by walk_at "vis") rfl ?_
      refine ⟨_, _, rfl, ?_⟩
      refine wa_nil ?_
      refine ⟨r55, rfl, (Out.sb h).imp (fun r61 h => ?_) (fun _ he => he.elim)⟩
      refine we_t1 (x := "list") (id := "list") rfl B.list bt_list ?_
      refine we_slice ?_
      refine we_prop cl_Ruler.cls p_Ruler_spans hr ?_
      refine we_var 13 rfl (by walk_at "vis") rfl ?_
      refine ⟨_, rfl, r55, rfl, (Out.nx (Out.sb h)).imp (fun r62 h => ?_) (fun _ he => he)⟩
      refine wo_none ?_
      refine wo_some ?_
      refine we_un rfl ?_
      refine we_int ?_
      refine ⟨_, rfl, ?_⟩
      refine ⟨_, rfl, ?_⟩
      refine ⟨_, .inl rfl, ?_⟩
      refine t_slT (f := eI) (xs := r62) ?_
      refine ⟨_, .inl rfl, ?_⟩
      refine c_listT ?_
      refine ⟨_, _, .inl rfl, .inl rfl, ?_⟩
      refine opw_neC (eqc_lst eqc_int) hr.units r61 (pcut r62 none (some (-(1 : Int)))) ?_
      refine ⟨_, rfl, ?_⟩
      exact ⟨rfl, rfl, h⟩
    exact ⟨rfl, rfl, h⟩
  refine ⟨fun hc => ?_, fun hc => ?_⟩
  · skip
    have h := (Out.iteb h).1 hc
    -- 197
    refine wb_cons (ws_ret ?_)
    refine we_bl ?_
    refine ⟨_, rfl, ?_⟩
    exact h _
  have h := (Out.iteb h).2 hc
  refine wb_nil ?_
  -- 198
  refine wb_cons (ws_ret ?_)
  refine we_cmp (nomark _) ?_
  refine we_cmp (nomark _) ?_
  refine we_cal tk c_best_mark hr rfl ?_
  refine wa_cons ?_
  refine we_var 13 rfl (by walk_at "vis") rfl ?_
  refine ⟨_, _, rfl, ?_⟩
  refine wa_nil ?_
  refine ⟨r55, rfl, (Out.sb h).imp (fun r63 h => ?_) (fun _ he => he.elim)⟩
  refine we_non ?_
  refine ⟨_, _, .inl rfl, .inl rfl, ?_⟩
  refine t_isN (fun _ => rfl) ?_
  refine we_cmp (nomark _) ?_
  refine we_var 2 rfl (by walk_at "vis") rfl ?_
  refine we_int ?_
  refine ⟨_, _, .inl rfl, .inl rfl, ?_⟩
  refine opw_eqI ?_
  refine ⟨_, _, .inl rfl, .inl rfl, ?_⟩
  refine opw_eqC eqc_bool hr.units ((r63).isNone) (decide (times3 = (1 : Int))) ?_
  refine ⟨_, rfl, ?_⟩
  exact h _
theorem law_sp {K : PySem.W.Frag} {H : Hp} {a : Addr} {ns : List Int} (hS : SqL K H a (ns.map V.int)) : spD K (FLaw m_law) [.ref a] H (fun v _ => v = .bl true) fun _ _ _ => False :=
  ⟨H, fun _ => none, [.scr ns], fun x _ => x = .sh (.bl true), fun _ _ => False, Ex.refl _, (fun _ _ h => nomatch h), (fun _ _ h => nomatch h), ⟨_, _, rfl, ⟨a, rfl, hS⟩, rfl⟩, ⟨ns, rfl, by rw [law_true ns]; exact fun _ => rfl⟩, (fun x G' v H' F' hp B rt => by subst hp; exact rt), fun _ _ _ _ _ _ z => z.elim⟩
theorem all_mk {l : PySem.W.OpenLaw} {w : World} {K : PySem.W.Frag} {h : Heap} {mg : Str → Option Value} {fa : Addr} (cx : Nat → Addr) (X : K.In h) (G : h.Ns mainGlobals mg) (hfa : mg "law" = some (.ref fa))
    {t_MAX_ADDED : Tok} {t_MAX_LENGTH : Tok} {d_SIZES : Addr} {o_SIZES : Option Addr} {n_SIZES : Nat} {l_SIZES : Array (Option Value)} {t_SIZES_0 t_SIZES_1 t_SIZES_2 t_SIZES_3 t_SIZES_4 t_SIZES_5 : Tok} {t_MAX_ERROR : Tok} {t_MAX_MARKS : Tok} {t_MIN_MARKS : Tok} {C_Ruler : Addr} {q_Ruler_own_error : Addr} {q_Ruler_own_marks : Addr} {f_law_begun : Addr} {oc1 kV1 dc1 pm1 cd1 ct1 : Value} {od1 an1 : Option Addr} {sl1 : Array (Option Value)} {f_law_long : Addr} {oc2 kV2 dc2 pm2 cd2 ct2 : Value} {od2 an2 : Option Addr} {sl2 : Array (Option Value)} {f_law_spans : Addr} {oc3 kV3 dc3 pm3 cd3 ct3 : Value} {od3 an3 : Option Addr} {sl3 : Array (Option Value)} {f_law_take : Addr} {oc4 kV4 dc4 pm4 cd4 ct4 : Value} {od4 an4 : Option Addr} {sl4 : Array (Option Value)} {f_law_turned : Addr} {oc5 kV5 dc5 pm5 cd5 ct5 : Value} {od5 an5 : Option Addr} {sl5 : Array (Option Value)} {f_Ruler_length : Addr} {p_Ruler_length : Addr} {r_Ruler_length : List Value} {oc6 kV6 dc6 pm6 cd6 ct6 : Value} {od6 an6 : Option Addr} {sl6 : Array (Option Value)} {f_Ruler_marks : Addr} {p_Ruler_marks : Addr} {r_Ruler_marks : List Value} {oc7 kV7 dc7 pm7 cd7 ct7 : Value} {od7 an7 : Option Addr} {sl7 : Array (Option Value)} {f_free_marks : Addr} {oc8 kV8 dc8 pm8 cd8 ct8 : Value} {od8 an8 : Option Addr} {sl8 : Array (Option Value)} {f_spread_of : Addr} {oc9 kV9 dc9 pm9 cd9 ct9 : Value} {od9 an9 : Option Addr} {sl9 : Array (Option Value)} {f_spans_with : Addr} {oc10 kV10 dc10 pm10 cd10 ct10 : Value} {od10 an10 : Option Addr} {sl10 : Array (Option Value)} {f_best_mark : Addr} {oc11 kV11 dc11 pm11 cd11 ct11 : Value} {od11 an11 : Option Addr} {sl11 : Array (Option Value)} {f_tuples_of : Addr} {oc12 kV12 dc12 pm12 cd12 ct12 : Value} {od12 an12 : Option Addr} {sl12 : Array (Option Value)} {f_Ruler_spans : Addr} {p_Ruler_spans : Addr} {r_Ruler_spans : List Value} {oc13 kV13 dc13 pm13 cd13 ct13 : Value} {od13 an13 : Option Addr} {sl13 : Array (Option Value)} {f_Ruler_len : Addr} {oc14 kV14 dc14 pm14 cd14 ct14 : Value} {od14 an14 : Option Addr} {sl14 : Array (Option Value)} {f_first_enough : Addr} {oc15 kV15 dc15 pm15 cd15 ct15 : Value} {od15 an15 : Option Addr} {sl15 : Array (Option Value)} {f_is_number : Addr} {oc16 kV16 dc16 pm16 cd16 ct16 : Value} {od16 an16 : Option Addr} {sl16 : Array (Option Value)} {f_fewest_marks : Addr} {oc17 kV17 dc17 pm17 cd17 ct17 : Value} {od17 an17 : Option Addr} {sl17 : Array (Option Value)} {f_Ruler_spread : Addr} {p_Ruler_spread : Addr} {r_Ruler_spread : List Value} {oc18 kV18 dc18 pm18 cd18 ct18 : Value} {od18 an18 : Option Addr} {sl18 : Array (Option Value)} {f_repeated : Addr} {oc19 kV19 dc19 pm19 cd19 ct19 : Value} {od19 an19 : Option Addr} {sl19 : Array (Option Value)} {f_is_sparse : Addr} {oc20 kV20 dc20 pm20 cd20 ct20 : Value} {od20 an20 : Option Addr} {sl20 : Array (Option Value)} {f_less : Addr} {oc21 kV21 dc21 pm21 cd21 ct21 : Value} {od21 an21 : Option Addr} {sl21 : Array (Option Value)} {f_grown : Addr} {oc22 kV22 dc22 pm22 cd22 ct22 : Value} {od22 an22 : Option Addr} {sl22 : Array (Option Value)} {f_mirrored : Addr} {oc23 kV23 dc23 pm23 cd23 ct23 : Value} {od23 an23 : Option Addr} {sl23 : Array (Option Value)} {f_validate_distances : Addr} {oc24 kV24 dc24 pm24 cd24 ct24 : Value} {od24 an24 : Option Addr} {sl24 : Array (Option Value)} {f_rulers_of : Addr} {oc25 kV25 dc25 pm25 cd25 ct25 : Value} {od25 an25 : Option Addr} {sl25 : Array (Option Value)} {f_Ruler_init : Addr} {oc26 kV26 dc26 pm26 cd26 ct26 : Value} {od26 an26 : Option Addr} {sl26 : Array (Option Value)} {f_Ruler_turned : Addr} {oc27 kV27 dc27 pm27 cd27 ct27 : Value} {od27 an27 : Option Addr} {sl27 : Array (Option Value)} {f_law : Addr} {oc28 kV28 dc28 pm28 cd28 ct28 : Value} {od28 an28 : Option Addr} {sl28 : Array (Option Value)}
    (z_int : PySem.W.nsIn K mainGlobals "int" = some none)
    (z_len : PySem.W.nsIn K mainGlobals "len" = some none)
    (z_list : PySem.W.nsIn K mainGlobals "list" = some none)
    (z_range : PySem.W.nsIn K mainGlobals "range" = some none)
    (z_sorted : PySem.W.nsIn K mainGlobals "sorted" = some none)
    (z_tuple : PySem.W.nsIn K mainGlobals "tuple" = some none)
    (z_dict : PySem.W.nsIn K mainGlobals "dict" = some none)
    (z_isinstance : PySem.W.nsIn K mainGlobals "isinstance" = some none)
    (z_bool : PySem.W.nsIn K mainGlobals "bool" = some none)
    (z_str : PySem.W.nsIn K mainGlobals "str" = some none)
    (z_enumerate : PySem.W.nsIn K mainGlobals "enumerate" = some none)
    (z_reversed : PySem.W.nsIn K mainGlobals "reversed" = some none)
    (z_abs : PySem.W.nsIn K mainGlobals "abs" = some none)
    (z_min : PySem.W.nsIn K mainGlobals "min" = some none)
    (z_max : PySem.W.nsIn K mainGlobals "max" = some none)
    (z_sum : PySem.W.nsIn K mainGlobals "sum" = some none)
    (z_zip : PySem.W.nsIn K mainGlobals "zip" = some none)
    (z_set : PySem.W.nsIn K mainGlobals "set" = some none)
    (z_all : PySem.W.nsIn K mainGlobals "all" = some none)
    (z_divmod : PySem.W.nsIn K mainGlobals "divmod" = some none)
    (g_MAX_ADDED : PySem.W.nsIn K mainGlobals "MAX_ADDED" = some (some (.int 3 t_MAX_ADDED)))
    (g_MAX_LENGTH : PySem.W.nsIn K mainGlobals "MAX_LENGTH" = some (some (.int 300 t_MAX_LENGTH)))
    (g_SIZES : PySem.W.nsIn K mainGlobals "SIZES" = some (some (.ref d_SIZES)))
    (kl_SIZES : K.lookup d_SIZES = some ⟨.type "tuple", o_SIZES, .seq #[.int 1 t_SIZES_0, .int 3 t_SIZES_1, .int 6 t_SIZES_2, .int 10 t_SIZES_3, .int 15 t_SIZES_4, .int 21 t_SIZES_5] n_SIZES, l_SIZES⟩)
    (g_MAX_ERROR : PySem.W.nsIn K mainGlobals "MAX_ERROR" = some (some (.int 9 t_MAX_ERROR)))
    (g_MAX_MARKS : PySem.W.nsIn K mainGlobals "MAX_MARKS" = some (some (.int 12 t_MAX_MARKS)))
    (g_MIN_MARKS : PySem.W.nsIn K mainGlobals "MIN_MARKS" = some (some (.int 2 t_MIN_MARKS)))
    (g_Ruler : PySem.W.nsIn K mainGlobals "Ruler" = some (some (.ref C_Ruler)))
    (pg_Ruler : PySem.W.plainGet K C_Ruler Str.empty = true)
    (ic_Ruler : PySem.W.isClsIn K C_Ruler = true)
    (po_Ruler : PySem.W.plainOver K C_Ruler = true)
    (sa_Ruler : PySem.W.findIn K (.ref C_Ruler) "__setattr__" = some (some (.builtin "object.__setattr__")))
    (ca_Ruler : PySem.W.findIn K (.ref C_Ruler) "__class__" = some (some (.builtin "object.__class__")))
    (cn_Ruler : PySem.W.specialIn K (.builtin "object.__class__") "__get__" = some (some (.builtin "getset_descriptor.__get__")))
    (ct_Ruler : PySem.W.takesIn K (.builtin "object.__class__") = some true)
    (cm_Ruler : PySem.W.mroIn K C_Ruler (.type "object") = some true)
    (sa_Ruler_own_error : PySem.W.findIn K (.ref C_Ruler) "own_error" = some (some (.ref q_Ruler_own_error)))
    (sg_Ruler_own_error : PySem.W.specialIn K (.ref q_Ruler_own_error) "__get__" = some (some (.builtin "member_descriptor.__get__")))
    (sk_Ruler_own_error : PySem.W.takesIn K (.ref q_Ruler_own_error) = some true)
    (sy_Ruler_own_error : PySem.W.typeIn K (.ref q_Ruler_own_error) = some (.type "member_descriptor"))
    (sx_Ruler_own_error : PySem.W.slotIn K q_Ruler_own_error C_Ruler = some 0)
    (sa_Ruler_own_marks : PySem.W.findIn K (.ref C_Ruler) "own_marks" = some (some (.ref q_Ruler_own_marks)))
    (sg_Ruler_own_marks : PySem.W.specialIn K (.ref q_Ruler_own_marks) "__get__" = some (some (.builtin "member_descriptor.__get__")))
    (sk_Ruler_own_marks : PySem.W.takesIn K (.ref q_Ruler_own_marks) = some true)
    (sy_Ruler_own_marks : PySem.W.typeIn K (.ref q_Ruler_own_marks) = some (.type "member_descriptor"))
    (sx_Ruler_own_marks : PySem.W.slotIn K q_Ruler_own_marks C_Ruler = some 1)
    (nf_Ruler : PySem.W.notFirst K C_Ruler (.ref C_Ruler) = true)
    (a_law_begun : PySem.W.nsIn K mainGlobals "_law_begun" = some (some (.ref f_law_begun)))
    (l_law_begun : K.lookup f_law_begun = some ⟨oc1, od1, .func (PySem.W.fnOf "_law_begun" "_law_begun" (defArgs s_law_begun) (defBody s_law_begun) (defScope s_law_begun) .none kV1 dc1 pm1 an1 cd1 ct1), sl1⟩)
    (c_law_begun : PySem.W.codeIn K cd1 "_law_begun" = true)
    (kp_law_begun : PySem.W.keepIn K (.ref f_law_begun) = true)
    (a_law_long : PySem.W.nsIn K mainGlobals "_law_long" = some (some (.ref f_law_long)))
    (l_law_long : K.lookup f_law_long = some ⟨oc2, od2, .func (PySem.W.fnOf "_law_long" "_law_long" (defArgs s_law_long) (defBody s_law_long) (defScope s_law_long) .none kV2 dc2 pm2 an2 cd2 ct2), sl2⟩)
    (c_law_long : PySem.W.codeIn K cd2 "_law_long" = true)
    (kp_law_long : PySem.W.keepIn K (.ref f_law_long) = true)
    (a_law_spans : PySem.W.nsIn K mainGlobals "_law_spans" = some (some (.ref f_law_spans)))
    (l_law_spans : K.lookup f_law_spans = some ⟨oc3, od3, .func (PySem.W.fnOf "_law_spans" "_law_spans" (defArgs s_law_spans) (defBody s_law_spans) (defScope s_law_spans) .none kV3 dc3 pm3 an3 cd3 ct3), sl3⟩)
    (c_law_spans : PySem.W.codeIn K cd3 "_law_spans" = true)
    (kp_law_spans : PySem.W.keepIn K (.ref f_law_spans) = true)
    (a_law_take : PySem.W.nsIn K mainGlobals "_law_take" = some (some (.ref f_law_take)))
    (l_law_take : K.lookup f_law_take = some ⟨oc4, od4, .func (PySem.W.fnOf "_law_take" "_law_take" (defArgs s_law_take) (defBody s_law_take) (defScope s_law_take) .none kV4 dc4 pm4 an4 cd4 ct4), sl4⟩)
    (c_law_take : PySem.W.codeIn K cd4 "_law_take" = true)
    (kp_law_take : PySem.W.keepIn K (.ref f_law_take) = true)
    (a_law_turned : PySem.W.nsIn K mainGlobals "_law_turned" = some (some (.ref f_law_turned)))
    (l_law_turned : K.lookup f_law_turned = some ⟨oc5, od5, .func (PySem.W.fnOf "_law_turned" "_law_turned" (defArgs s_law_turned) (defBody s_law_turned) (defScope s_law_turned) .none kV5 dc5 pm5 an5 cd5 ct5), sl5⟩)
    (c_law_turned : PySem.W.codeIn K cd5 "_law_turned" = true)
    (kp_law_turned : PySem.W.keepIn K (.ref f_law_turned) = true)
    (at_Ruler_length : PySem.W.findIn K (.ref C_Ruler) "length" = some (some (.ref p_Ruler_length)))
    (sp_Ruler_length : PySem.W.specialIn K (.ref p_Ruler_length) "__get__" = some (some (.builtin "property.__get__")))
    (tk_Ruler_length : PySem.W.takesIn K (.ref p_Ruler_length) = some true)
    (rc_Ruler_length : PySem.W.recIn K p_Ruler_length "property" = some (.ref f_Ruler_length :: r_Ruler_length))
    (l_Ruler_length : K.lookup f_Ruler_length = some ⟨oc6, od6, .func (PySem.W.fnOf "length" "Ruler.length" (defArgs s_Ruler_length) (defBody s_Ruler_length) (defScope s_Ruler_length) .none kV6 dc6 pm6 an6 cd6 ct6), sl6⟩)
    (c_Ruler_length : PySem.W.codeIn K cd6 "Ruler.length" = true)
    (kp_Ruler_length : PySem.W.keepIn K (.ref f_Ruler_length) = true)
    (at_Ruler_marks : PySem.W.findIn K (.ref C_Ruler) "marks" = some (some (.ref p_Ruler_marks)))
    (sp_Ruler_marks : PySem.W.specialIn K (.ref p_Ruler_marks) "__get__" = some (some (.builtin "property.__get__")))
    (tk_Ruler_marks : PySem.W.takesIn K (.ref p_Ruler_marks) = some true)
    (rc_Ruler_marks : PySem.W.recIn K p_Ruler_marks "property" = some (.ref f_Ruler_marks :: r_Ruler_marks))
    (l_Ruler_marks : K.lookup f_Ruler_marks = some ⟨oc7, od7, .func (PySem.W.fnOf "marks" "Ruler.marks" (defArgs s_Ruler_marks) (defBody s_Ruler_marks) (defScope s_Ruler_marks) .none kV7 dc7 pm7 an7 cd7 ct7), sl7⟩)
    (c_Ruler_marks : PySem.W.codeIn K cd7 "Ruler.marks" = true)
    (kp_Ruler_marks : PySem.W.keepIn K (.ref f_Ruler_marks) = true)
    (a_free_marks : PySem.W.nsIn K mainGlobals "free_marks" = some (some (.ref f_free_marks)))
    (l_free_marks : K.lookup f_free_marks = some ⟨oc8, od8, .func (PySem.W.fnOf "free_marks" "free_marks" (defArgs s_free_marks) (defBody s_free_marks) (defScope s_free_marks) .none kV8 dc8 pm8 an8 cd8 ct8), sl8⟩)
    (c_free_marks : PySem.W.codeIn K cd8 "free_marks" = true)
    (kp_free_marks : PySem.W.keepIn K (.ref f_free_marks) = true)
    (a_spread_of : PySem.W.nsIn K mainGlobals "spread_of" = some (some (.ref f_spread_of)))
    (l_spread_of : K.lookup f_spread_of = some ⟨oc9, od9, .func (PySem.W.fnOf "spread_of" "spread_of" (defArgs s_spread_of) (defBody s_spread_of) (defScope s_spread_of) .none kV9 dc9 pm9 an9 cd9 ct9), sl9⟩)
    (c_spread_of : PySem.W.codeIn K cd9 "spread_of" = true)
    (kp_spread_of : PySem.W.keepIn K (.ref f_spread_of) = true)
    (a_spans_with : PySem.W.nsIn K mainGlobals "spans_with" = some (some (.ref f_spans_with)))
    (l_spans_with : K.lookup f_spans_with = some ⟨oc10, od10, .func (PySem.W.fnOf "spans_with" "spans_with" (defArgs s_spans_with) (defBody s_spans_with) (defScope s_spans_with) .none kV10 dc10 pm10 an10 cd10 ct10), sl10⟩)
    (c_spans_with : PySem.W.codeIn K cd10 "spans_with" = true)
    (kp_spans_with : PySem.W.keepIn K (.ref f_spans_with) = true)
    (a_best_mark : PySem.W.nsIn K mainGlobals "best_mark" = some (some (.ref f_best_mark)))
    (l_best_mark : K.lookup f_best_mark = some ⟨oc11, od11, .func (PySem.W.fnOf "best_mark" "best_mark" (defArgs s_best_mark) (defBody s_best_mark) (defScope s_best_mark) .none kV11 dc11 pm11 an11 cd11 ct11), sl11⟩)
    (c_best_mark : PySem.W.codeIn K cd11 "best_mark" = true)
    (kp_best_mark : PySem.W.keepIn K (.ref f_best_mark) = true)
    (a_tuples_of : PySem.W.nsIn K mainGlobals "tuples_of" = some (some (.ref f_tuples_of)))
    (l_tuples_of : K.lookup f_tuples_of = some ⟨oc12, od12, .func (PySem.W.fnOf "tuples_of" "tuples_of" (defArgs s_tuples_of) (defBody s_tuples_of) (defScope s_tuples_of) .none kV12 dc12 pm12 an12 cd12 ct12), sl12⟩)
    (c_tuples_of : PySem.W.codeIn K cd12 "tuples_of" = true)
    (kp_tuples_of : PySem.W.keepIn K (.ref f_tuples_of) = true)
    (at_Ruler_spans : PySem.W.findIn K (.ref C_Ruler) "spans" = some (some (.ref p_Ruler_spans)))
    (sp_Ruler_spans : PySem.W.specialIn K (.ref p_Ruler_spans) "__get__" = some (some (.builtin "property.__get__")))
    (tk_Ruler_spans : PySem.W.takesIn K (.ref p_Ruler_spans) = some true)
    (rc_Ruler_spans : PySem.W.recIn K p_Ruler_spans "property" = some (.ref f_Ruler_spans :: r_Ruler_spans))
    (l_Ruler_spans : K.lookup f_Ruler_spans = some ⟨oc13, od13, .func (PySem.W.fnOf "spans" "Ruler.spans" (defArgs s_Ruler_spans) (defBody s_Ruler_spans) (defScope s_Ruler_spans) .none kV13 dc13 pm13 an13 cd13 ct13), sl13⟩)
    (c_Ruler_spans : PySem.W.codeIn K cd13 "Ruler.spans" = true)
    (kp_Ruler_spans : PySem.W.keepIn K (.ref f_Ruler_spans) = true)
    (at_Ruler_len : PySem.W.findIn K (.ref C_Ruler) "__len__" = some (some (.ref f_Ruler_len)))
    (fn_Ruler_len : PySem.W.isFn K (.ref f_Ruler_len) = true)
    (l_Ruler_len : K.lookup f_Ruler_len = some ⟨oc14, od14, .func (PySem.W.fnOf "__len__" "Ruler.__len__" (defArgs s_Ruler_len) (defBody s_Ruler_len) (defScope s_Ruler_len) .none kV14 dc14 pm14 an14 cd14 ct14), sl14⟩)
    (c_Ruler_len : PySem.W.codeIn K cd14 "Ruler.__len__" = true)
    (kp_Ruler_len : PySem.W.keepIn K (.ref f_Ruler_len) = true)
    (a_first_enough : PySem.W.nsIn K mainGlobals "first_enough" = some (some (.ref f_first_enough)))
    (l_first_enough : K.lookup f_first_enough = some ⟨oc15, od15, .func (PySem.W.fnOf "first_enough" "first_enough" (defArgs s_first_enough) (defBody s_first_enough) (defScope s_first_enough) .none kV15 dc15 pm15 an15 cd15 ct15), sl15⟩)
    (c_first_enough : PySem.W.codeIn K cd15 "first_enough" = true)
    (kp_first_enough : PySem.W.keepIn K (.ref f_first_enough) = true)
    (a_is_number : PySem.W.nsIn K mainGlobals "is_number" = some (some (.ref f_is_number)))
    (l_is_number : K.lookup f_is_number = some ⟨oc16, od16, .func (PySem.W.fnOf "is_number" "is_number" (defArgs s_is_number) (defBody s_is_number) (defScope s_is_number) .none kV16 dc16 pm16 an16 cd16 ct16), sl16⟩)
    (c_is_number : PySem.W.codeIn K cd16 "is_number" = true)
    (kp_is_number : PySem.W.keepIn K (.ref f_is_number) = true)
    (a_fewest_marks : PySem.W.nsIn K mainGlobals "fewest_marks" = some (some (.ref f_fewest_marks)))
    (l_fewest_marks : K.lookup f_fewest_marks = some ⟨oc17, od17, .func (PySem.W.fnOf "fewest_marks" "fewest_marks" (defArgs s_fewest_marks) (defBody s_fewest_marks) (defScope s_fewest_marks) .none kV17 dc17 pm17 an17 cd17 ct17), sl17⟩)
    (c_fewest_marks : PySem.W.codeIn K cd17 "fewest_marks" = true)
    (kp_fewest_marks : PySem.W.keepIn K (.ref f_fewest_marks) = true)
    (at_Ruler_spread : PySem.W.findIn K (.ref C_Ruler) "spread" = some (some (.ref p_Ruler_spread)))
    (sp_Ruler_spread : PySem.W.specialIn K (.ref p_Ruler_spread) "__get__" = some (some (.builtin "property.__get__")))
    (tk_Ruler_spread : PySem.W.takesIn K (.ref p_Ruler_spread) = some true)
    (rc_Ruler_spread : PySem.W.recIn K p_Ruler_spread "property" = some (.ref f_Ruler_spread :: r_Ruler_spread))
    (l_Ruler_spread : K.lookup f_Ruler_spread = some ⟨oc18, od18, .func (PySem.W.fnOf "spread" "Ruler.spread" (defArgs s_Ruler_spread) (defBody s_Ruler_spread) (defScope s_Ruler_spread) .none kV18 dc18 pm18 an18 cd18 ct18), sl18⟩)
    (c_Ruler_spread : PySem.W.codeIn K cd18 "Ruler.spread" = true)
    (kp_Ruler_spread : PySem.W.keepIn K (.ref f_Ruler_spread) = true)
    (a_repeated : PySem.W.nsIn K mainGlobals "repeated" = some (some (.ref f_repeated)))
    (l_repeated : K.lookup f_repeated = some ⟨oc19, od19, .func (PySem.W.fnOf "repeated" "repeated" (defArgs s_repeated) (defBody s_repeated) (defScope s_repeated) .none kV19 dc19 pm19 an19 cd19 ct19), sl19⟩)
    (c_repeated : PySem.W.codeIn K cd19 "repeated" = true)
    (kp_repeated : PySem.W.keepIn K (.ref f_repeated) = true)
    (a_is_sparse : PySem.W.nsIn K mainGlobals "is_sparse" = some (some (.ref f_is_sparse)))
    (l_is_sparse : K.lookup f_is_sparse = some ⟨oc20, od20, .func (PySem.W.fnOf "is_sparse" "is_sparse" (defArgs s_is_sparse) (defBody s_is_sparse) (defScope s_is_sparse) .none kV20 dc20 pm20 an20 cd20 ct20), sl20⟩)
    (c_is_sparse : PySem.W.codeIn K cd20 "is_sparse" = true)
    (kp_is_sparse : PySem.W.keepIn K (.ref f_is_sparse) = true)
    (a_less : PySem.W.nsIn K mainGlobals "less" = some (some (.ref f_less)))
    (l_less : K.lookup f_less = some ⟨oc21, od21, .func (PySem.W.fnOf "less" "less" (defArgs s_less) (defBody s_less) (defScope s_less) .none kV21 dc21 pm21 an21 cd21 ct21), sl21⟩)
    (c_less : PySem.W.codeIn K cd21 "less" = true)
    (kp_less : PySem.W.keepIn K (.ref f_less) = true)
    (a_grown : PySem.W.nsIn K mainGlobals "grown" = some (some (.ref f_grown)))
    (l_grown : K.lookup f_grown = some ⟨oc22, od22, .func (PySem.W.fnOf "grown" "grown" (defArgs s_grown) (defBody s_grown) (defScope s_grown) .none kV22 dc22 pm22 an22 cd22 ct22), sl22⟩)
    (c_grown : PySem.W.codeIn K cd22 "grown" = true)
    (kp_grown : PySem.W.keepIn K (.ref f_grown) = true)
    (a_mirrored : PySem.W.nsIn K mainGlobals "mirrored" = some (some (.ref f_mirrored)))
    (l_mirrored : K.lookup f_mirrored = some ⟨oc23, od23, .func (PySem.W.fnOf "mirrored" "mirrored" (defArgs s_mirrored) (defBody s_mirrored) (defScope s_mirrored) .none kV23 dc23 pm23 an23 cd23 ct23), sl23⟩)
    (c_mirrored : PySem.W.codeIn K cd23 "mirrored" = true)
    (kp_mirrored : PySem.W.keepIn K (.ref f_mirrored) = true)
    (a_validate_distances : PySem.W.nsIn K mainGlobals "validate_distances" = some (some (.ref f_validate_distances)))
    (l_validate_distances : K.lookup f_validate_distances = some ⟨oc24, od24, .func (PySem.W.fnOf "validate_distances" "validate_distances" (defArgs s_validate_distances) (defBody s_validate_distances) (defScope s_validate_distances) .none kV24 dc24 pm24 an24 cd24 ct24), sl24⟩)
    (c_validate_distances : PySem.W.codeIn K cd24 "validate_distances" = true)
    (kp_validate_distances : PySem.W.keepIn K (.ref f_validate_distances) = true)
    (a_rulers_of : PySem.W.nsIn K mainGlobals "rulers_of" = some (some (.ref f_rulers_of)))
    (l_rulers_of : K.lookup f_rulers_of = some ⟨oc25, od25, .func (PySem.W.fnOf "rulers_of" "rulers_of" (defArgs s_rulers_of) (defBody s_rulers_of) (defScope s_rulers_of) .none kV25 dc25 pm25 an25 cd25 ct25), sl25⟩)
    (c_rulers_of : PySem.W.codeIn K cd25 "rulers_of" = true)
    (kp_rulers_of : PySem.W.keepIn K (.ref f_rulers_of) = true)
    (at_Ruler_init : PySem.W.findIn K (.ref C_Ruler) "__init__" = some (some (.ref f_Ruler_init)))
    (fn_Ruler_init : PySem.W.isFn K (.ref f_Ruler_init) = true)
    (l_Ruler_init : K.lookup f_Ruler_init = some ⟨oc26, od26, .func (PySem.W.fnOf "__init__" "Ruler.__init__" (defArgs s_Ruler_init) (defBody s_Ruler_init) (defScope s_Ruler_init) .none kV26 dc26 pm26 an26 cd26 ct26), sl26⟩)
    (c_Ruler_init : PySem.W.codeIn K cd26 "Ruler.__init__" = true)
    (kp_Ruler_init : PySem.W.keepIn K (.ref f_Ruler_init) = true)
    (mki_Ruler : PySem.W.makesIn K C_Ruler = true)
    (kc_Ruler : PySem.W.keepIn K (.ref C_Ruler) = true)
    (at_Ruler_turned : PySem.W.findIn K (.ref C_Ruler) "turned" = some (some (.ref f_Ruler_turned)))
    (fn_Ruler_turned : PySem.W.isFn K (.ref f_Ruler_turned) = true)
    (l_Ruler_turned : K.lookup f_Ruler_turned = some ⟨oc27, od27, .func (PySem.W.fnOf "turned" "Ruler.turned" (defArgs s_Ruler_turned) (defBody s_Ruler_turned) (defScope s_Ruler_turned) .none kV27 dc27 pm27 an27 cd27 ct27), sl27⟩)
    (c_Ruler_turned : PySem.W.codeIn K cd27 "Ruler.turned" = true)
    (kp_Ruler_turned : PySem.W.keepIn K (.ref f_Ruler_turned) = true)
    (a_law : PySem.W.nsIn K mainGlobals "law" = some (some (.ref f_law)))
    (l_law : K.lookup f_law = some ⟨oc28, od28, .func (PySem.W.fnOf "law" "law" (defArgs s_law) (defBody s_law) (defScope s_law) .none kV28 dc28 pm28 an28 cd28 ct28), sl28⟩)
    (c_law : PySem.W.codeIn K cd28 "law" = true)
    (kp_law : PySem.W.keepIn K (.ref f_law) = true) :
    ∃ fd : FuncData, (∀ (s : Shared) (v : Value), BindsTo s fd ⟨[v], []⟩ [("_law_script", v)]) ∧ ∀ base : Heap, K.In base → base.Ns mainGlobals mg → FnOk l.prog w K mg base (L2.CX l.prog w) 25 fa fd ["_law_script"] (spD K (FLaw m_law)) := by
  have efa := hfa.symm.trans (PySem.W.mg_of X G a_law)
  cases efa
  have mg_MAX_ADDED := PySem.W.mg_of X G g_MAX_ADDED
  have mg_MAX_LENGTH := PySem.W.mg_of X G g_MAX_LENGTH
  have mg_SIZES := PySem.W.mg_of X G g_SIZES
  have kt_SIZES : KTup K mg "SIZES" [1, 3, 6, 10, 15, 21] := ⟨_, _, _, _, mg_SIZES, kl_SIZES, rfl, rfl, (show 6 ≤ sizeLine from Nat.le_of_ble_eq_true rfl), vals_ints rfl (by simp)⟩
  have mg_MAX_ERROR := PySem.W.mg_of X G g_MAX_ERROR
  have mg_MAX_MARKS := PySem.W.mg_of X G g_MAX_MARKS
  have mg_MIN_MARKS := PySem.W.mg_of X G g_MIN_MARKS
  have mg_Ruler := PySem.W.mg_of X G g_Ruler
  have cls_Ruler : SlX.SCls K C_Ruler := ⟨pg_Ruler, ic_Ruler, po_Ruler, sa_Ruler⟩
  have isi_Ruler : SlX.SIsi K C_Ruler := ⟨ca_Ruler, cn_Ruler, ct_Ruler, cm_Ruler⟩
  have slot_Ruler_own_error : SlX.Slot1 K C_Ruler "own_error" q_Ruler_own_error 0 := ⟨sa_Ruler_own_error, sg_Ruler_own_error, sk_Ruler_own_error, sy_Ruler_own_error, sx_Ruler_own_error, by decide⟩
  have slot_Ruler_own_marks : SlX.Slot1 K C_Ruler "own_marks" q_Ruler_own_marks 1 := ⟨sa_Ruler_own_marks, sg_Ruler_own_marks, sk_Ruler_own_marks, sy_Ruler_own_marks, sx_Ruler_own_marks, by decide⟩
  have cl_Ruler : Cl_Ruler K C_Ruler := ⟨cls_Ruler, isi_Ruler, ⟨_, slot_Ruler_own_error⟩, ⟨_, slot_Ruler_own_marks⟩, kit_same (by simp), nf_Ruler⟩
  have B : Bn mg := ⟨PySem.W.mg_none_of X G z_int, PySem.W.mg_none_of X G z_len, PySem.W.mg_none_of X G z_list, PySem.W.mg_none_of X G z_range, PySem.W.mg_none_of X G z_sorted, PySem.W.mg_none_of X G z_tuple, PySem.W.mg_none_of X G z_dict, PySem.W.mg_none_of X G z_isinstance, PySem.W.mg_none_of X G z_bool, PySem.W.mg_none_of X G z_str, PySem.W.mg_none_of X G z_enumerate, PySem.W.mg_none_of X G z_reversed, PySem.W.mg_none_of X G z_abs, PySem.W.mg_none_of X G z_min, PySem.W.mg_none_of X G z_max, PySem.W.mg_none_of X G z_sum, PySem.W.mg_none_of X G z_zip, PySem.W.mg_none_of X G z_set, PySem.W.mg_none_of X G z_all, PySem.W.mg_none_of X G z_divmod⟩
  have F_law_begun := fun_mk (st := s_law_begun) l_law_begun c_law_begun kp_law_begun
  have b_law_begun := F_law_begun.binds (ps := ["_law_script"]) fun _ _ _ _ _ _ us hl => match us, hl with | [_], _ => rfl
  have mg_law_begun := PySem.W.mg_of X G a_law_begun
  have F_law_long := fun_mk (st := s_law_long) l_law_long c_law_long kp_law_long
  have b_law_long := F_law_long.binds (ps := ["_law_marks", "_law_times"]) fun _ _ _ _ _ _ us hl => match us, hl with | [_, _], _ => rfl
  have mg_law_long := PySem.W.mg_of X G a_law_long
  have F_law_spans := fun_mk (st := s_law_spans) l_law_spans c_law_spans kp_law_spans
  have b_law_spans := F_law_spans.binds (ps := ["_law_marks"]) fun _ _ _ _ _ _ us hl => match us, hl with | [_], _ => rfl
  have mg_law_spans := PySem.W.mg_of X G a_law_spans
  have F_law_take := fun_mk (st := s_law_take) l_law_take c_law_take kp_law_take
  have b_law_take := F_law_take.binds (ps := ["_law_box", "_law_many"]) fun _ _ _ _ _ _ us hl => match us, hl with | [_, _], _ => rfl
  have mg_law_take := PySem.W.mg_of X G a_law_take
  have F_law_turned := fun_mk (st := s_law_turned) l_law_turned c_law_turned kp_law_turned
  have b_law_turned := F_law_turned.binds (ps := ["_law_marks"]) fun _ _ _ _ _ _ us hl => match us, hl with | [_], _ => rfl
  have mg_law_turned := PySem.W.mg_of X G a_law_turned
  have F_Ruler_length := fun_mk (st := s_Ruler_length) l_Ruler_length c_Ruler_length kp_Ruler_length
  have b_Ruler_length := F_Ruler_length.binds (ps := ["self"]) fun _ _ _ _ _ _ us hl => match us, hl with | [_], _ => rfl
  have F_Ruler_marks := fun_mk (st := s_Ruler_marks) l_Ruler_marks c_Ruler_marks kp_Ruler_marks
  have b_Ruler_marks := F_Ruler_marks.binds (ps := ["self"]) fun _ _ _ _ _ _ us hl => match us, hl with | [_], _ => rfl
  have F_free_marks := fun_mk (st := s_free_marks) l_free_marks c_free_marks kp_free_marks
  have b_free_marks := F_free_marks.binds (ps := ["ruler"]) fun _ _ _ _ _ _ us hl => match us, hl with | [_], _ => rfl
  have mg_free_marks := PySem.W.mg_of X G a_free_marks
  have F_spread_of := fun_mk (st := s_spread_of) l_spread_of c_spread_of kp_spread_of
  have b_spread_of := F_spread_of.binds (ps := ["marks"]) fun _ _ _ _ _ _ us hl => match us, hl with | [_], _ => rfl
  have mg_spread_of := PySem.W.mg_of X G a_spread_of
  have F_spans_with := fun_mk (st := s_spans_with) l_spans_with c_spans_with kp_spans_with
  have b_spans_with := F_spans_with.binds (ps := ["marks", "more"]) fun _ _ _ _ _ _ us hl => match us, hl with | [_, _], _ => rfl
  have mg_spans_with := PySem.W.mg_of X G a_spans_with
  have F_best_mark := fun_mk (st := s_best_mark) l_best_mark c_best_mark kp_best_mark
  have b_best_mark := F_best_mark.binds (ps := ["ruler"]) fun _ _ _ _ _ _ us hl => match us, hl with | [_], _ => rfl
  have mg_best_mark := PySem.W.mg_of X G a_best_mark
  have F_tuples_of := fun_mk (st := s_tuples_of) l_tuples_of c_tuples_of kp_tuples_of
  have b_tuples_of := F_tuples_of.binds (ps := ["values", "size"]) fun _ _ _ _ _ _ us hl => match us, hl with | [_, _], _ => rfl
  have mg_tuples_of := PySem.W.mg_of X G a_tuples_of
  have F_Ruler_spans := fun_mk (st := s_Ruler_spans) l_Ruler_spans c_Ruler_spans kp_Ruler_spans
  have b_Ruler_spans := F_Ruler_spans.binds (ps := ["self"]) fun _ _ _ _ _ _ us hl => match us, hl with | [_], _ => rfl
  have F_Ruler_len := fun_mk (st := s_Ruler_len) l_Ruler_len c_Ruler_len kp_Ruler_len
  have b_Ruler_len := F_Ruler_len.binds (ps := ["self"]) fun _ _ _ _ _ _ us hl => match us, hl with | [_], _ => rfl
  have F_first_enough := fun_mk (st := s_first_enough) l_first_enough c_first_enough kp_first_enough
  have b_first_enough := F_first_enough.binds (ps := ["ruler", "free", "most", "size"]) fun _ _ _ _ _ _ us hl => match us, hl with | [_, _, _, _], _ => rfl
  have mg_first_enough := PySem.W.mg_of X G a_first_enough
  have F_is_number := fun_mk (st := s_is_number) l_is_number c_is_number kp_is_number
  have b_is_number := F_is_number.binds (ps := ["value", "lowest", "highest"]) fun _ _ _ _ _ _ us hl => match us, hl with | [_, _, _], _ => rfl
  have mg_is_number := PySem.W.mg_of X G a_is_number
  have F_fewest_marks := fun_mk (st := s_fewest_marks) l_fewest_marks c_fewest_marks kp_fewest_marks
  have b_fewest_marks := F_fewest_marks.binds (ps := ["ruler", "most"]) fun _ _ _ _ _ _ us hl => match us, hl with | [_, _], _ => rfl
  have mg_fewest_marks := PySem.W.mg_of X G a_fewest_marks
  have F_Ruler_spread := fun_mk (st := s_Ruler_spread) l_Ruler_spread c_Ruler_spread kp_Ruler_spread
  have b_Ruler_spread := F_Ruler_spread.binds (ps := ["self"]) fun _ _ _ _ _ _ us hl => match us, hl with | [_], _ => rfl
  have F_repeated := fun_mk (st := s_repeated) l_repeated c_repeated kp_repeated
  have b_repeated := F_repeated.binds (ps := ["ruler"]) fun _ _ _ _ _ _ us hl => match us, hl with | [_], _ => rfl
  have mg_repeated := PySem.W.mg_of X G a_repeated
  have F_is_sparse := fun_mk (st := s_is_sparse) l_is_sparse c_is_sparse kp_is_sparse
  have b_is_sparse := F_is_sparse.binds (ps := ["ruler"]) fun _ _ _ _ _ _ us hl => match us, hl with | [_], _ => rfl
  have mg_is_sparse := PySem.W.mg_of X G a_is_sparse
  have F_less := fun_mk (st := s_less) l_less c_less kp_less
  have b_less := F_less.binds (ps := ["left", "taken"]) fun _ _ _ _ _ _ us hl => match us, hl with | [_, _], _ => rfl
  have mg_less := PySem.W.mg_of X G a_less
  have F_grown := fun_mk (st := s_grown) l_grown c_grown kp_grown
  have b_grown := F_grown.binds (ps := ["marks", "left"]) fun _ _ _ _ _ _ us hl => match us, hl with | [_, _], _ => rfl
  have mg_grown := PySem.W.mg_of X G a_grown
  have F_mirrored := fun_mk (st := s_mirrored) l_mirrored c_mirrored kp_mirrored
  have b_mirrored := F_mirrored.binds (ps := ["marks"]) fun _ _ _ _ _ _ us hl => match us, hl with | [_], _ => rfl
  have mg_mirrored := PySem.W.mg_of X G a_mirrored
  have F_validate_distances := fun_mk (st := s_validate_distances) l_validate_distances c_validate_distances kp_validate_distances
  have b_validate_distances := F_validate_distances.binds (ps := ["distances"]) fun _ _ _ _ _ _ us hl => match us, hl with | [_], _ => rfl
  have mg_validate_distances := PySem.W.mg_of X G a_validate_distances
  have F_rulers_of := fun_mk (st := s_rulers_of) l_rulers_of c_rulers_of kp_rulers_of
  have b_rulers_of := F_rulers_of.binds (ps := ["distances"]) fun _ _ _ _ _ _ us hl => match us, hl with | [_], _ => rfl
  have mg_rulers_of := PySem.W.mg_of X G a_rulers_of
  have F_Ruler_init := fun_mk (st := s_Ruler_init) l_Ruler_init c_Ruler_init kp_Ruler_init
  have b_Ruler_init := F_Ruler_init.binds (ps := ["self", "marks", "error"]) fun _ _ _ _ _ _ us hl => match us, hl with | [_, _, _], _ => rfl
  have F_Ruler_turned := fun_mk (st := s_Ruler_turned) l_Ruler_turned c_Ruler_turned kp_Ruler_turned
  have b_Ruler_turned := F_Ruler_turned.binds (ps := ["self"]) fun _ _ _ _ _ _ us hl => match us, hl with | [_], _ => rfl
  have F_law := fun_mk (st := s_law) l_law c_law kp_law
  have b_law := F_law.binds (ps := ["_law_script"]) fun _ _ _ _ _ _ us hl => match us, hl with | [_], _ => rfl
  refine ⟨PySem.W.fnOf "law" "law" (defArgs s_law) (defBody s_law) (defScope s_law) .none kV28 dc28 pm28 an28 cd28 ct28, fun s v => .of_eq rfl, fun base _ _ => ?_⟩
  have c_law_begun : Cal l.prog w K mg base "_law_begun" 3 ["_law_script"] (FBegun m_law_begun) := ⟨f_law_begun, _, ok_law_begun F_law_begun B, mg_law_begun, kp_law_begun, b_law_begun⟩
  have c_law_long : Cal l.prog w K mg base "_law_long" 3 ["_law_marks", "_law_times"] (FM cx (A := (List Int) × Int) (R := List Int) (fun a => [(eT eI) a.1, eI a.2]) (fun v => .sh ((eT eI) v)) (fun a => m_law_long a.1 a.2)) := ⟨f_law_long, _, ok_law_long F_law_long B, mg_law_long, kp_law_long, b_law_long⟩
  have c_law_spans : Cal l.prog w K mg base "_law_spans" 3 ["_law_marks"] (FM cx (A := List Int) (R := List Int) (fun a => [(eT eI) a]) (fun v => .fr ((eL eI) v)) (fun a => m_law_spans a)) := ⟨f_law_spans, _, ok_law_spans F_law_spans B, mg_law_spans, kp_law_spans, b_law_spans⟩
  have c_law_take : Cal l.prog w K mg base "_law_take" 3 ["_law_box", "_law_many"] (FB (A := Int) (R := Int) (fun a => [eI a]) (fun v => .sh (eI v)) (fun a => m_law_take a)) := ⟨f_law_take, _, ok_law_take F_law_take B, mg_law_take, kp_law_take, b_law_take⟩
  have c_law_turned : Cal l.prog w K mg base "_law_turned" 3 ["_law_marks"] (FM cx (A := List Int) (R := List Int) (fun a => [(eT eI) a]) (fun v => .sh ((eT eI) v)) (fun a => m_law_turned a)) := ⟨f_law_turned, _, ok_law_turned F_law_turned B, mg_law_turned, kp_law_turned, b_law_turned⟩
  have p_Ruler_length : PropD l.prog w K mg base C_Ruler "length" 3 (FM cx (A := Rul) (R := Int) (fun a => [(eRul C_Ruler) a]) (fun v => .sh (eI v)) (fun a => m_Ruler_length a)) := ⟨p_Ruler_length, f_Ruler_length, _, at_Ruler_length, sp_Ruler_length, tk_Ruler_length, ⟨_, rc_Ruler_length⟩, ok_Ruler_length F_Ruler_length B cl_Ruler, b_Ruler_length⟩
  have p_Ruler_marks : PropD l.prog w K mg base C_Ruler "marks" 3 (FM cx (A := Rul) (R := List Int) (fun a => [(eRul C_Ruler) a]) (fun v => .sh ((eT eI) v)) (fun a => .ok (m_Ruler_marks a))) := ⟨p_Ruler_marks, f_Ruler_marks, _, at_Ruler_marks, sp_Ruler_marks, tk_Ruler_marks, ⟨_, rc_Ruler_marks⟩, ok_Ruler_marks F_Ruler_marks B cl_Ruler, b_Ruler_marks⟩
  have c_free_marks : Cal l.prog w K mg base "free_marks" 6 ["ruler"] (FM cx (A := Rul) (R := List Int) (fun a => [(eRul C_Ruler) a]) (fun v => .fr ((eL eI) v)) (fun a => m_free_marks a)) := ⟨f_free_marks, _, ok_free_marks F_free_marks B cl_Ruler p_Ruler_length p_Ruler_marks, mg_free_marks, kp_free_marks, b_free_marks⟩
  have c_spread_of_l : Cal l.prog w K mg base "spread_of" 3 ["marks"] (FM cx (A := List Int) (R := List Int) (fun a => [(eL eI) a]) (fun v => .fr ((eL eI) v)) (fun a => m_spread_of_l a)) := ⟨f_spread_of, _, ok_spread_of_l F_spread_of B, mg_spread_of, kp_spread_of, b_spread_of⟩
  have c_spans_with : Cal l.prog w K mg base "spans_with" 5 ["marks", "more"] (FM cx (A := (List Int) × (List Int)) (R := List (Int × Bool)) (fun a => [(eT eI) a.1, (eL eI) a.2]) (fun v => .fr ((eD kI eB) v)) (fun a => m_spans_with a.1 a.2)) := ⟨f_spans_with, _, ok_spans_with F_spans_with B c_spread_of_l, mg_spans_with, kp_spans_with, b_spans_with⟩
  have c_best_mark : Cal l.prog w K mg base "best_mark" 8 ["ruler"] (FM cx (A := Rul) (R := Option (Int)) (fun a => [(eRul C_Ruler) a]) (fun v => .sh ((eO eI) v)) (fun a => m_best_mark a)) := ⟨f_best_mark, _, ok_best_mark F_best_mark B c_free_marks c_spans_with cl_Ruler p_Ruler_marks, mg_best_mark, kp_best_mark, b_best_mark⟩
  have c_spans_with_t : Cal l.prog w K mg base "spans_with" 5 ["marks", "more"] (FM cx (A := (List Int) × (List Int)) (R := List (Int × Bool)) (fun a => [(eT eI) a.1, (eT eI) a.2]) (fun v => .fr ((eD kI eB) v)) (fun a => m_spans_with_t a.1 a.2)) := ⟨f_spans_with, _, ok_spans_with_t F_spans_with B c_spread_of_l, mg_spans_with, kp_spans_with, b_spans_with⟩
  have c_tuples_of : Cal l.prog w K mg base "tuples_of" 3 ["values", "size"] (FM cx (A := (List Int) × Int) (R := List (List Int)) (fun a => [(eL eI) a.1, eI a.2]) (fun v => .sh ((eL (eT eI)) v)) (fun a => m_tuples_of a.1 a.2)) := ⟨f_tuples_of, _, ok_tuples_of F_tuples_of B, mg_tuples_of, kp_tuples_of, b_tuples_of⟩
  have c_spread_of : Cal l.prog w K mg base "spread_of" 3 ["marks"] (FM cx (A := List Int) (R := List Int) (fun a => [(eT eI) a]) (fun v => .fr ((eL eI) v)) (fun a => m_spread_of a)) := ⟨f_spread_of, _, ok_spread_of F_spread_of B, mg_spread_of, kp_spread_of, b_spread_of⟩
  have p_Ruler_spans : PropD l.prog w K mg base C_Ruler "spans" 5 (FM cx (A := Rul) (R := List Int) (fun a => [(eRul C_Ruler) a]) (fun v => .sh ((eT eI) v)) (fun a => m_Ruler_spans a)) := ⟨p_Ruler_spans, f_Ruler_spans, _, at_Ruler_spans, sp_Ruler_spans, tk_Ruler_spans, ⟨_, rc_Ruler_spans⟩, ok_Ruler_spans F_Ruler_spans B c_spread_of cl_Ruler, b_Ruler_spans⟩
  have x_Ruler_len : SpecD l.prog w K mg base C_Ruler "__len__" 3 ["self"] (FM cx (A := Rul) (R := Int) (fun a => [(eRul C_Ruler) a]) (fun v => .sh (eI v)) (fun a => .ok (m_Ruler___len a))) := ⟨f_Ruler_len, _, at_Ruler_len, fn_Ruler_len, ok_Ruler_len F_Ruler_len B cl_Ruler, b_Ruler_len⟩
  have c_first_enough : Cal l.prog w K mg base "first_enough" 8 ["ruler", "free", "most", "size"] (FM cx (A := Rul × (List Int) × Int × Int) (R := Option (List Int)) (fun a => [(eRul C_Ruler) a.1, (eL eI) a.2.1, eI a.2.2.1, eI a.2.2.2]) (fun v => .sh ((eO (eT eI)) v)) (fun a => m_first_enough a.1 a.2.1 a.2.2.1 a.2.2.2)) := ⟨f_first_enough, _, ok_first_enough F_first_enough B c_spans_with_t c_tuples_of cl_Ruler p_Ruler_length p_Ruler_marks p_Ruler_spans x_Ruler_len, mg_first_enough, kp_first_enough, b_first_enough⟩
  have c_is_number : Cal l.prog w K mg base "is_number" 3 ["value", "lowest", "highest"] (FM cx (A := Int × Int × Int) (R := Bool) (fun a => [eI a.1, eI a.2.1, eI a.2.2]) (fun v => .sh (eB v)) (fun a => .ok (m_is_number a.1 a.2.1 a.2.2))) := ⟨f_is_number, _, ok_is_number F_is_number B, mg_is_number, kp_is_number, b_is_number⟩
  have c_fewest_marks : Cal l.prog w K mg base "fewest_marks" 10 ["ruler", "most"] (FM cx (A := Rul × Int) (R := Option (List Int)) (fun a => [(eRul C_Ruler) a.1, eI a.2]) (fun v => .sh ((eO (eT eI)) v)) (fun a => m_fewest_marks a.1 a.2)) := ⟨f_fewest_marks, _, ok_fewest_marks F_fewest_marks B c_first_enough c_free_marks c_is_number mg_MAX_ADDED mg_MAX_LENGTH, mg_fewest_marks, kp_fewest_marks, b_fewest_marks⟩
  have p_Ruler_spread : PropD l.prog w K mg base C_Ruler "spread" 5 (FM cx (A := Rul) (R := List Int) (fun a => [(eRul C_Ruler) a]) (fun v => .sh ((eT eI) v)) (fun a => m_Ruler_spread a)) := ⟨p_Ruler_spread, f_Ruler_spread, _, at_Ruler_spread, sp_Ruler_spread, tk_Ruler_spread, ⟨_, rc_Ruler_spread⟩, ok_Ruler_spread F_Ruler_spread B c_spread_of cl_Ruler, b_Ruler_spread⟩
  have c_repeated : Cal l.prog w K mg base "repeated" 8 ["ruler"] (FM cx (A := Rul) (R := List Int) (fun a => [(eRul C_Ruler) a]) (fun v => .fr ((eL eI) v)) (fun a => m_repeated a)) := ⟨f_repeated, _, ok_repeated F_repeated B cl_Ruler p_Ruler_spans p_Ruler_spread, mg_repeated, kp_repeated, b_repeated⟩
  have c_is_sparse : Cal l.prog w K mg base "is_sparse" 10 ["ruler"] (FM cx (A := Rul) (R := Bool) (fun a => [(eRul C_Ruler) a]) (fun v => .sh (eB v)) (fun a => m_is_sparse a)) := ⟨f_is_sparse, _, ok_is_sparse F_is_sparse B c_repeated, mg_is_sparse, kp_is_sparse, b_is_sparse⟩
  have c_less : Cal l.prog w K mg base "less" 3 ["left", "taken"] (FM cx (A := (List Int) × (List Int)) (R := Option (List Int)) (fun a => [(eL eI) a.1, (eL eI) a.2]) (fun v => .sh ((eO (eL eI)) v)) (fun a => m_less a.1 a.2)) := ⟨f_less, _, ok_less F_less B, mg_less, kp_less, b_less⟩
  have c_grown : Cal l.prog w K mg base "grown" 21 ["marks", "left"] (FM cx (A := (List Int) × (List Int)) (R := List (List Int)) (fun a => [(eT eI) a.1, (eL eI) a.2]) (fun v => .sh ((eL (eT eI)) v)) (fun a => m_grown 8 a.1 a.2)) := cal_grown 8 F_grown B c_less mg_grown kp_grown b_grown
  have c_mirrored : Cal l.prog w K mg base "mirrored" 3 ["marks"] (FM cx (A := List Int) (R := List Int) (fun a => [(eT eI) a]) (fun v => .sh ((eT eI) v)) (fun a => m_mirrored a)) := ⟨f_mirrored, _, ok_mirrored F_mirrored B, mg_mirrored, kp_mirrored, b_mirrored⟩
  have c_validate_distances : Cal l.prog w K mg base "validate_distances" 5 ["distances"] (FM cx (A := List Int) (R := Unit) (fun a => [(eL eI) a]) (fun v => .sh (eU v)) (fun a => m_validate_distances a)) := ⟨f_validate_distances, _, ok_validate_distances F_validate_distances B c_is_number kt_SIZES mg_MAX_LENGTH, mg_validate_distances, kp_validate_distances, b_validate_distances⟩
  have c_rulers_of : Cal l.prog w K mg base "rulers_of" 23 ["distances"] (FM cx (A := List Int) (R := List (List Int)) (fun a => [(eL eI) a]) (fun v => .fr ((eL (eT eI)) v)) (fun a => m_rulers_of a)) := ⟨f_rulers_of, _, ok_rulers_of F_rulers_of B c_grown c_mirrored c_validate_distances, mg_rulers_of, kp_rulers_of, b_rulers_of⟩
  have k_Ruler : MakeD l.prog w K mg base "Ruler" C_Ruler 5 ["self", "marks", "error"] (FMI cx (A := (List Int) × Int) (R := Rul) (fun a => [(eT eI) a.1, eI a.2]) (fun r => [.int r.error, .tup (r.marks.map D.int)]) (fun a => mk_Ruler a.1 a.2)) := ⟨f_Ruler_init, _, ⟨mki_Ruler, at_Ruler_init, fn_Ruler_init, kc_Ruler⟩, mg_Ruler, ok_Ruler_init F_Ruler_init B c_is_number cl_Ruler mg_MAX_ERROR mg_MAX_LENGTH mg_MAX_MARKS mg_MIN_MARKS, b_Ruler_init⟩
  have d_Ruler_turned : MethD l.prog w K mg base C_Ruler "turned" 8 ["self"] (FM cx (A := Rul) (R := Rul) (fun a => [(eRul C_Ruler) a]) (fun v => .sh ((eRul C_Ruler) v)) (fun a => m_Ruler_turned a)) := ⟨f_Ruler_turned, _, ⟨at_Ruler_turned, fn_Ruler_turned, kp_Ruler_turned⟩, ok_Ruler_turned F_Ruler_turned B c_mirrored cl_Ruler k_Ruler, b_Ruler_turned⟩
  exact ok_law F_law B c_law_begun c_law_long c_law_spans c_law_take c_law_turned c_best_mark c_fewest_marks c_is_sparse c_repeated c_rulers_of d_Ruler_turned cl_Ruler k_Ruler p_Ruler_spans p_Ruler_spread x_Ruler_len
theorem walk {l : PySem.W.OpenLaw} {q : Program} {loose : List Str} {XP : (Str → Option Value) → Heap → Prop} {YP : World → Heap → Prop} {d : DefRec} {K : Params → PySem.W.Frag} (hn : l.most = some 63) (hdf : d.params.defaults = [])
    (hY : ∀ (w : World) (h : Heap), YP w h → (K w.params).In h)
    (F : ∀ (w : World) (mg : Str → Option Value) (fa : Addr) (h : Heap), (K w.params).In h → h.Ns mainGlobals mg → mg d.name = some (.ref fa) →
      ∃ fd : FuncData, (∀ (s : Shared) (u : Value), BindsTo s fd ⟨[u], []⟩ [("_law_script", u)]) ∧ ∀ base : Heap, (K w.params).In base → base.Ns mainGlobals mg → FnOk l.prog w (K w.params) mg base (L2.CX l.prog w) 25 fa fd ["_law_script"] (spD (K w.params) (FLaw m_law))) :
    PySem.W.WalkO q loose XP YP l.row.toRowW d [] (fun f vs => PySem.call f vs) :=
  L2.walk_of (n := 63) (k := 25) (x := "_law_script") (CX := fun w => L2.CX l.prog w) (sp := fun w => spD (K w.params) (FLaw m_law)) hn (by decide) hdf ⟨rfl, by decide, by decide⟩ hY F (fun _ H a ns hl _ hS => law_sp  hS) fun _ _ _ _ _ h => by
    obtain ⟨_, _, _, _, _, _, _, _, _, _, _, _, z⟩ := h
    exact z
end
end RB
open PySem PySem.W PyProof.Rows
set_option maxRecDepth 100000 in
set_option maxHeartbeats 0 in
theorem PySem.Challenge.cw_rulerbits_k71_whole_rulers_known_by_thei_holds : PySem.Challenge.rw_rulerbits_k71_whole_rulers_known_by_thei.Holds := by
  w_on; o_law; k_head; (case hw => w_witness2)
  k_fill
  refine RB.walk (l := PySem.Challenge.rw_rulerbits_k71_whole_rulers_known_by_thei) rfl rfl (fun w h Y => PySem.W.kIn_of Y) ?F
  case F =>
    intro w mg fa h KX G hmg
    refine' RB.all_mk (fun _ => 0) KX G hmg ?z_int ?z_len ?z_list ?z_range ?z_sorted ?z_tuple ?z_dict ?z_isinstance ?z_bool ?z_str ?z_enumerate ?z_reversed ?z_abs ?z_min ?z_max ?z_sum ?z_zip ?z_set ?z_all ?z_divmod ?g_MAX_ADDED ?g_MAX_LENGTH ?g_SIZES ?kl_SIZES ?g_MAX_ERROR ?g_MAX_MARKS ?g_MIN_MARKS ?g_Ruler ?pg_Ruler ?ic_Ruler ?po_Ruler ?sa_Ruler ?ca_Ruler ?cn_Ruler ?ct_Ruler ?cm_Ruler ?sa_Ruler_own_error ?sg_Ruler_own_error ?sk_Ruler_own_error ?sy_Ruler_own_error ?sx_Ruler_own_error ?sa_Ruler_own_marks ?sg_Ruler_own_marks ?sk_Ruler_own_marks ?sy_Ruler_own_marks ?sx_Ruler_own_marks ?nf_Ruler ?a_law_begun ?l_law_begun ?c_law_begun ?kp_law_begun ?a_law_long ?l_law_long ?c_law_long ?kp_law_long ?a_law_spans ?l_law_spans ?c_law_spans ?kp_law_spans ?a_law_take ?l_law_take ?c_law_take ?kp_law_take ?a_law_turned ?l_law_turned ?c_law_turned ?kp_law_turned ?at_Ruler_length ?sp_Ruler_length ?tk_Ruler_length ?rc_Ruler_length ?l_Ruler_length ?c_Ruler_length ?kp_Ruler_length ?at_Ruler_marks ?sp_Ruler_marks ?tk_Ruler_marks ?rc_Ruler_marks ?l_Ruler_marks ?c_Ruler_marks ?kp_Ruler_marks ?a_free_marks ?l_free_marks ?c_free_marks ?kp_free_marks ?a_spread_of ?l_spread_of ?c_spread_of ?kp_spread_of ?a_spans_with ?l_spans_with ?c_spans_with ?kp_spans_with ?a_best_mark ?l_best_mark ?c_best_mark ?kp_best_mark ?a_tuples_of ?l_tuples_of ?c_tuples_of ?kp_tuples_of ?at_Ruler_spans ?sp_Ruler_spans ?tk_Ruler_spans ?rc_Ruler_spans ?l_Ruler_spans ?c_Ruler_spans ?kp_Ruler_spans ?at_Ruler_len ?fn_Ruler_len ?l_Ruler_len ?c_Ruler_len ?kp_Ruler_len ?a_first_enough ?l_first_enough ?c_first_enough ?kp_first_enough ?a_is_number ?l_is_number ?c_is_number ?kp_is_number ?a_fewest_marks ?l_fewest_marks ?c_fewest_marks ?kp_fewest_marks ?at_Ruler_spread ?sp_Ruler_spread ?tk_Ruler_spread ?rc_Ruler_spread ?l_Ruler_spread ?c_Ruler_spread ?kp_Ruler_spread ?a_repeated ?l_repeated ?c_repeated ?kp_repeated ?a_is_sparse ?l_is_sparse ?c_is_sparse ?kp_is_sparse ?a_less ?l_less ?c_less ?kp_less ?a_grown ?l_grown ?c_grown ?kp_grown ?a_mirrored ?l_mirrored ?c_mirrored ?kp_mirrored ?a_validate_distances ?l_validate_distances ?c_validate_distances ?kp_validate_distances ?a_rulers_of ?l_rulers_of ?c_rulers_of ?kp_rulers_of ?at_Ruler_init ?fn_Ruler_init ?l_Ruler_init ?c_Ruler_init ?kp_Ruler_init ?mki_Ruler ?kc_Ruler ?at_Ruler_turned ?fn_Ruler_turned ?l_Ruler_turned ?c_Ruler_turned ?kp_Ruler_turned ?a_law ?l_law ?c_law ?kp_law
    (case z_int => k_is)
    (case z_len => k_is)
    (case z_list => k_is)
    (case z_range => k_is)
    (case z_sorted => k_is)
    (case z_tuple => k_is)
    (case z_dict => k_is)
    (case z_isinstance => k_is)
    (case z_bool => k_is)
    (case z_str => k_is)
    (case z_enumerate => k_is)
    (case z_reversed => k_is)
    (case z_abs => k_is)
    (case z_min => k_is)
    (case z_max => k_is)
    (case z_sum => k_is)
    (case z_zip => k_is)
    (case z_set => k_is)
    (case z_all => k_is)
    (case z_divmod => k_is)
    (case g_MAX_ADDED => k_is)
    (case g_MAX_LENGTH => k_is)
    (case g_SIZES => k_is)
    (case kl_SIZES => k_is)
    (case g_MAX_ERROR => k_is)
    (case g_MAX_MARKS => k_is)
    (case g_MIN_MARKS => k_is)
    (case g_Ruler => k_is)
    (case pg_Ruler => k_is)
    (case ic_Ruler => k_is)
    (case po_Ruler => k_is)
    (case sa_Ruler => k_is)
    (case ca_Ruler => k_is)
    (case cn_Ruler => k_is)
    (case ct_Ruler => k_is)
    (case cm_Ruler => k_is)
    (case sa_Ruler_own_error => k_is)
    (case sg_Ruler_own_error => k_is)
    (case sk_Ruler_own_error => k_is)
    (case sy_Ruler_own_error => k_is)
    (case sx_Ruler_own_error => k_is)
    (case sa_Ruler_own_marks => k_is)
    (case sg_Ruler_own_marks => k_is)
    (case sk_Ruler_own_marks => k_is)
    (case sy_Ruler_own_marks => k_is)
    (case sx_Ruler_own_marks => k_is)
    (case nf_Ruler => k_is)
    (case a_law_begun => k_is)
    (case l_law_begun => k_is)
    (case c_law_begun => k_is)
    (case kp_law_begun => k_is)
    (case a_law_long => k_is)
    (case l_law_long => k_is)
    (case c_law_long => k_is)
    (case kp_law_long => k_is)
    (case a_law_spans => k_is)
    (case l_law_spans => k_is)
    (case c_law_spans => k_is)
    (case kp_law_spans => k_is)
    (case a_law_take => k_is)
    (case l_law_take => k_is)
    (case c_law_take => k_is)
    (case kp_law_take => k_is)
    (case a_law_turned => k_is)
    (case l_law_turned => k_is)
    (case c_law_turned => k_is)
    (case kp_law_turned => k_is)
    (case at_Ruler_length => k_is)
    (case sp_Ruler_length => k_is)
    (case tk_Ruler_length => k_is)
    (case rc_Ruler_length => k_is)
    (case l_Ruler_length => k_is)
    (case c_Ruler_length => k_is)
    (case kp_Ruler_length => k_is)
    (case at_Ruler_marks => k_is)
    (case sp_Ruler_marks => k_is)
    (case tk_Ruler_marks => k_is)
    (case rc_Ruler_marks => k_is)
    (case l_Ruler_marks => k_is)
    (case c_Ruler_marks => k_is)
    (case kp_Ruler_marks => k_is)
    (case a_free_marks => k_is)
    (case l_free_marks => k_is)
    (case c_free_marks => k_is)
    (case kp_free_marks => k_is)
    (case a_spread_of => k_is)
    (case l_spread_of => k_is)
    (case c_spread_of => k_is)
    (case kp_spread_of => k_is)
    (case a_spans_with => k_is)
    (case l_spans_with => k_is)
    (case c_spans_with => k_is)
    (case kp_spans_with => k_is)
    (case a_best_mark => k_is)
    (case l_best_mark => k_is)
    (case c_best_mark => k_is)
    (case kp_best_mark => k_is)
    (case a_tuples_of => k_is)
    (case l_tuples_of => k_is)
    (case c_tuples_of => k_is)
    (case kp_tuples_of => k_is)
    (case at_Ruler_spans => k_is)
    (case sp_Ruler_spans => k_is)
    (case tk_Ruler_spans => k_is)
    (case rc_Ruler_spans => k_is)
    (case l_Ruler_spans => k_is)
    (case c_Ruler_spans => k_is)
    (case kp_Ruler_spans => k_is)
    (case at_Ruler_len => k_is)
    (case fn_Ruler_len => k_is)
    (case l_Ruler_len => k_is)
    (case c_Ruler_len => k_is)
    (case kp_Ruler_len => k_is)
    (case a_first_enough => k_is)
    (case l_first_enough => k_is)
    (case c_first_enough => k_is)
    (case kp_first_enough => k_is)
    (case a_is_number => k_is)
    (case l_is_number => k_is)
    (case c_is_number => k_is)
    (case kp_is_number => k_is)
    (case a_fewest_marks => k_is)
    (case l_fewest_marks => k_is)
    (case c_fewest_marks => k_is)
    (case kp_fewest_marks => k_is)
    (case at_Ruler_spread => k_is)
    (case sp_Ruler_spread => k_is)
    (case tk_Ruler_spread => k_is)
    (case rc_Ruler_spread => k_is)
    (case l_Ruler_spread => k_is)
    (case c_Ruler_spread => k_is)
    (case kp_Ruler_spread => k_is)
    (case a_repeated => k_is)
    (case l_repeated => k_is)
    (case c_repeated => k_is)
    (case kp_repeated => k_is)
    (case a_is_sparse => k_is)
    (case l_is_sparse => k_is)
    (case c_is_sparse => k_is)
    (case kp_is_sparse => k_is)
    (case a_less => k_is)
    (case l_less => k_is)
    (case c_less => k_is)
    (case kp_less => k_is)
    (case a_grown => k_is)
    (case l_grown => k_is)
    (case c_grown => k_is)
    (case kp_grown => k_is)
    (case a_mirrored => k_is)
    (case l_mirrored => k_is)
    (case c_mirrored => k_is)
    (case kp_mirrored => k_is)
    (case a_validate_distances => k_is)
    (case l_validate_distances => k_is)
    (case c_validate_distances => k_is)
    (case kp_validate_distances => k_is)
    (case a_rulers_of => k_is)
    (case l_rulers_of => k_is)
    (case c_rulers_of => k_is)
    (case kp_rulers_of => k_is)
    (case at_Ruler_init => k_is)
    (case fn_Ruler_init => k_is)
    (case l_Ruler_init => k_is)
    (case c_Ruler_init => k_is)
    (case kp_Ruler_init => k_is)
    (case mki_Ruler => k_is)
    (case kc_Ruler => k_is)
    (case at_Ruler_turned => k_is)
    (case fn_Ruler_turned => k_is)
    (case l_Ruler_turned => k_is)
    (case c_Ruler_turned => k_is)
    (case kp_Ruler_turned => k_is)
    (case a_law => k_is)
    (case l_law => k_is)
    (case c_law => k_is)
    (case kp_law => k_is)
