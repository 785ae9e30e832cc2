import PyProof.Rows.All
import Wide.All
import OpenK.AllK
import Wide.FinOn
import HandS.ForMost
import HandS.Walk
import HandS.Lambda
import HandS.Defaults
import HandS.Deep
import HandS.Flow
import KE.KDictKeyed
import HandS.HeadHook1
import HandS.TupAny
import HandS.TupMul
import HandS.TupLe
import HandS.Wide
import HandS.IsInst
import HandS.Conv
import HandS.Zip
import HandS.Style
import KE.KLam
import KE.SortKeyHeap
import HandS.HeadHook2
import HandS.HeadHook3
import HandS.HeadHook4
import HandS.Head0
import HandS.Head1
import HandS.Head2
import HandS.HeadWalk
import HandS.SetFor
import HandS.Strs
import HandS.SortInts
import HandS.SortOrd
import KE.SortData
import PyProof.TupleOfSeq
import KE.GoesEnum
import KE.KDictPairs
import HandS.ForDict
import KE.KDictDisplayH
import KE.KDictWalk
import KE.KDictSum
import HandS.ExcOwn
import HandS.ExcIs
import HandS.TryOnly
import KE.KDictItemsList
import HandS.DictTup
import HandS.Text
import HandS.RaiseMore
import HandS.JoinGen
import KE.GoesRaise
import HandS.EndTab
import PyProof.ReprRoads
import HandS.TupLen
import KE.KEqDict
import PySem.Challenge.RW_drawmakers_k53_whole_orders_counted
section
set_option Elab.async false
set_option linter.all false
set_option maxRecDepth 100000
set_option autoImplicit false
set_option maxHeartbeats 2000000
/-! Fd1: readings over data. G: the part of the heap that is frozen; HR: how a heap and its frozen part grow; ER: the slots as data. -/
namespace Fd
open PySem PySem.Spec PyProof.Rows L2 LamX

/-- what may still change: a list, a dict whose keys are tuples, a dict whose keys are ints -/
inductive OD where
  | lst (ds : List PyData)
  | dN (kvs : List (NestedKey × PyData))
  | dI (kvs : List (Int × PyData))
  /-- the list at q -/
  | «at» (q : Addr) (ds : List PyData)
/-- what is known of a thing that stays as it is: an instance of Drawer, its list at q; a list of such; a list of lists by their addresses; data whose object is plain; a tuple whose second item is plain -/
inductive Ft where
  | ins (q : Addr) (mk : PyData)
  | inss (xs : List (Addr × PyData))
  | refs (qs : List Addr)
  | pl (d : PyData)
  | plt (ds : List PyData)
  /-- the thing at f -/
  | fn (f : Addr)
  /-- a dict that stays as it is -/
  | dct (kvs : List (NestedKey × PyData))
/-- a slot as data: not known, data, a thing of one's own that may still change -/
inductive Sl where
  | no
  | dat (d : PyData)
  | obj (o : OD)
  | fct (f : Ft)
abbrev Sl.own (ds : List PyData) : Sl := .obj (.lst ds)
abbrev Ev := List Sl
abbrev Tb := List (Addr × Str)
def NoT (G : Hp) : Prop := ∀ a ps, G a ≠ some (.tbl ps)
/-- nothing stands there, or a table of code objects -/
def NT (H : Hp) (a : Addr) : Prop := ∀ o, H a = some o → ∃ ps, o = .tbl ps

theorem tblOr (o : HO) : (∃ ps, o = .tbl ps) ∨ ∀ ps, o ≠ .tbl ps := by
  cases o with
  | tbl ps => exact .inl ⟨ps, rfl⟩
  | _ => exact .inr fun ps z => by cases z

theorem NT.back {H H' : Hp} {a : Addr} (e : ExtN H H') (h : NT H' a) : NT H a := by
  intro o ho
  rcases tblOr o with z | z
  · exact z
  · exact absurd (h o (e a o ho z)) (fun ⟨ps, q⟩ => z ps q)
theorem NT.none {H : Hp} {a : Addr} (h : H a = Option.none) : NT H a := fun o e => by rw [h] at e; cases e

/-- how the heap H with its frozen part G grows to H' with G' -/
structure HR (T : Tb) (H G H' G' : Hp) : Prop where
  sub : Same G' H'
  nt : NoT G'
  tabs : Tabs T H'
  ext : ExtN H H'
  g0 : Same G G'
  new : ∀ a, G' a ≠ none → G a ≠ none ∨ NT H a

theorem HR.refl {T : Tb} {H G H' G' : Hp} (h : HR T H G H' G') : HR T H' G' H' G' :=
  ⟨h.sub, h.nt, h.tabs, ExtN.refl _, Same.refl _, fun a z => .inl z⟩
theorem HR.trans {T : Tb} {H G H1 G1 H2 G2 : Hp} (a : HR T H G H1 G1) (b : HR T H1 G1 H2 G2) : HR T H G H2 G2 :=
  ⟨b.sub, b.nt, b.tabs, a.ext.trans b.ext, a.g0.trans b.g0, fun x z => by
    rcases b.new x z with q | q
    · exact a.new x q
    · exact .inr (q.back a.ext)⟩
/-- a new object, frozen at once -/
theorem HR.laid {T : Tb} {H0 G0 H G : Hp} {p : Addr} {o : HO} (h : HR T H0 G0 H G) (hp : H p = none) (ho : ∀ ps, o ≠ .tbl ps) : HR T H G (upd H p o) (upd G p o) := by
  have gp : G p = none := by
    cases q : G p with
    | none => rfl
    | some u => rw [h.sub p u q] at hp; cases hp
  have ex : Same H (upd H p o) := fun b u e => by rw [upd_ne (ne_of_none e hp)]; exact e
  refine ⟨fun b u e => ?_, fun b ps e => ?_, h.tabs.ext ex, ExtN.of ex, fun b u e => by rw [upd_ne (ne_of_none e gp)]; exact e, fun b e => ?_⟩
  · by_cases hb : b = p
    · subst hb; rw [upd_same] at e ⊢; exact e
    · rw [upd_ne hb] at e ⊢; exact h.sub b u e
  · by_cases hb : b = p
    · subst hb; rw [upd_same] at e; cases e; exact ho ps rfl
    · rw [upd_ne hb] at e; exact h.nt b ps e
  · by_cases hb : b = p
    · subst hb; exact .inr (NT.none hp)
    · rw [upd_ne hb] at e; exact .inl e
/-- a new object, not frozen -/
theorem HR.laidO {T : Tb} {H0 G0 H G : Hp} {p : Addr} {o : HO} (h : HR T H0 G0 H G) (hp : H p = none) : HR T H G (upd H p o) G := by
  have ex : Same H (upd H p o) := fun b u e => by rw [upd_ne (ne_of_none e hp)]; exact e
  exact ⟨h.sub.trans ex, h.nt, h.tabs.ext ex, ExtN.of ex, Same.refl _, fun b e => .inl e⟩

end Fd
namespace L2
open PySem PySem.Spec PyProof.Rows LamX
/-! ### data in a growing heap -/
theorem sqT_mono {K : PySem.W.Frag} {H H' : Hp} {a : Addr} {xs : List V} (e : Same H H') (h : SqT K H a xs) : SqT K H' a xs := by
  rcases h with (h | ⟨o, h⟩) | h
  · exact .inl (.inl (e _ _ h))
  · exact .inl (.inr ⟨o, e _ _ h⟩)
  · exact .inr h
mutual
theorem dp_mono {K : PySem.W.Frag} {G G' : Hp} (e : Same G G') : ∀ (d : PyData) (v : V), Dp K G v d → Dp K G' v d
  | .none, _, h => by cases h; exact .non
  | .bool b, _, h => by cases h; exact .bl b
  | .int i, _, h => by cases h; exact .int i
  | .str x, _, h => by cases h; exact .str x
  | .list ds, _, h => by
    cases h with
    | lst hs ha => exact .lst (e.seq hs) (dpAll_mono e ds _ ha)
  | .tuple ds, _, h => by
    cases h with
    | tup hs ha => exact .tup (sqT_mono e hs) (dpAll_mono e ds _ ha)
  | .dict _, _, h => by cases h
theorem dpAll_mono {K : PySem.W.Frag} {G G' : Hp} (e : Same G G') : ∀ (ds : List PyData) (vs : List V), DpAll K G vs ds → DpAll K G' vs ds
  | [], _, h => by cases h; exact .nil
  | d :: ds, _, h => by
    cases h with
    | cons h1 h2 => exact .cons (dp_mono e d _ h1) (dpAll_mono e ds _ h2)
end
theorem Dp.up {K : PySem.W.Frag} {G G' : Hp} {v : V} {d : PyData} (h : Dp K G v d) (e : Same G G') : Dp K G' v d := dp_mono e d v h
theorem DpAll.up {K : PySem.W.Frag} {G G' : Hp} {vs : List V} {ds : List PyData} (h : DpAll K G vs ds) (e : Same G G') : DpAll K G' vs ds := dpAll_mono e ds vs h
theorem DpAll.len {K : PySem.W.Frag} {G : Hp} : ∀ {vs : List V} {ds : List PyData}, DpAll K G vs ds → vs.length = ds.length
  | _, _, .nil => rfl
  | _, _, .cons _ t => congrArg Nat.succ (DpAll.len t)
theorem DpAll.at {K : PySem.W.Frag} {G : Hp} : ∀ {vs : List V} {ds : List PyData} {i : Nat} {v : V}, DpAll K G vs ds → vs[i]? = some v → ∃ d, ds[i]? = some d ∧ Dp K G v d
  | _, _, _, _, .nil, e => by simp at e
  | _, _, 0, _, .cons h _, e => by simp at e; subst e; exact ⟨_, rfl, h⟩
  | _, _, i + 1, v, .cons _ t, e => by
    obtain ⟨d, h1, h2⟩ := DpAll.at (i := i) (v := v) t (by simpa using e)
    exact ⟨d, by simpa using h1, h2⟩
theorem DpAll.atD {K : PySem.W.Frag} {G : Hp} : ∀ {vs : List V} {ds : List PyData} {i : Nat} {d : PyData}, DpAll K G vs ds → ds[i]? = some d → ∃ v, vs[i]? = some v ∧ Dp K G v d
  | _, _, _, _, .nil, e => by simp at e
  | _, _, 0, _, .cons h _, e => by simp at e; subst e; exact ⟨_, rfl, h⟩
  | _, _, i + 1, v, .cons _ t, e => by
    obtain ⟨d, h1, h2⟩ := DpAll.atD (i := i) (d := v) t (by simpa using e)
    exact ⟨d, by simpa using h1, h2⟩
theorem DpAll.app {K : PySem.W.Frag} {G : Hp} : ∀ {vs ws : List V} {ds es : List PyData}, DpAll K G vs ds → DpAll K G ws es → DpAll K G (vs ++ ws) (ds ++ es)
  | _, _, _, _, .nil, h => h
  | _, _, _, _, .cons a t, h => .cons a (DpAll.app t h)
theorem DpAll.take {K : PySem.W.Frag} {G : Hp} : ∀ {vs : List V} {ds : List PyData} (n : Nat), DpAll K G vs ds → DpAll K G (vs.take n) (ds.take n)
  | _, _, 0, _ => by simp; exact .nil
  | _, _, _ + 1, .nil => by simp; exact .nil
  | _, _, n + 1, .cons a t => .cons a (DpAll.take n t)
theorem DpAll.drop {K : PySem.W.Frag} {G : Hp} : ∀ {vs : List V} {ds : List PyData} (n : Nat), DpAll K G vs ds → DpAll K G (vs.drop n) (ds.drop n)
  | _, _, 0, h => h
  | _, _, _ + 1, .nil => by simp; exact .nil
  | _, _, n + 1, .cons a t => DpAll.drop n t
theorem DpAll.set {K : PySem.W.Frag} {G : Hp} {v : V} {d : PyData} (h : Dp K G v d) : ∀ {vs : List V} {ds : List PyData} (n : Nat), DpAll K G vs ds → DpAll K G (vs.set n v) (ds.set n d)
  | _, _, _, .nil => .nil
  | _, _, 0, .cons a t => .cons h t
  | _, _, n + 1, .cons a t => .cons a (DpAll.set h n t)
theorem DpAll.rev {K : PySem.W.Frag} {G : Hp} : ∀ {vs : List V} {ds : List PyData}, DpAll K G vs ds → DpAll K G vs.reverse ds.reverse
  | _, _, .nil => .nil
  | _, _, .cons a t => by
    rw [List.reverse_cons, List.reverse_cons]
    exact DpAll.app (DpAll.rev t) (.cons a .nil)
theorem DpAll.ints {K : PySem.W.Frag} {G : Hp} : ∀ ns : List Int, DpAll K G (ns.map V.int) (ns.map PyData.int)
  | [] => .nil
  | n :: ns => .cons (.int n) (DpAll.ints ns)
theorem DpAll.ofInts {K : PySem.W.Frag} {G : Hp} : ∀ {vs : List V} {ns : List Int}, DpAll K G vs (ns.map PyData.int) → vs = ns.map V.int
  | _, [], h => by cases h; rfl
  | _, n :: ns, h => by
    cases h with
    | cons h1 h2 =>
      cases h1
      rw [DpAll.ofInts h2]
      rfl
theorem DpAll.ofBools {K : PySem.W.Frag} {G : Hp} : ∀ {vs : List V} {ns : List Bool}, DpAll K G vs (ns.map PyData.bool) → vs = ns.map V.bl
  | _, [], h => by cases h; rfl
  | _, n :: ns, h => by
    cases h with
    | cons h1 h2 =>
      cases h1
      rw [DpAll.ofBools h2]
      rfl
theorem DpAll.ofStrs {K : PySem.W.Frag} {G : Hp} : ∀ {vs : List V} {ns : List Str}, DpAll K G vs (ns.map PyData.str) → vs = ns.map V.str
  | _, [], h => by cases h; rfl
  | _, n :: ns, h => by
    cases h with
    | cons h1 h2 =>
      cases h1
      rw [DpAll.ofStrs h2]
      rfl
theorem DpAll.strs {K : PySem.W.Frag} {G : Hp} : ∀ ns : List Str, DpAll K G (ns.map V.str) (ns.map PyData.str)
  | [] => .nil
  | n :: ns => .cons (.str n) (DpAll.strs ns)

end L2
namespace Fd
open PySem PySem.Spec PyProof.Rows L2 LamX
/-! ### the slots as data -/
mutual
/-- hash(k) of a key without texts -/
def nhash : NestedKey → Int
  | .none => reduceHash 0xFCA86420
  | .num i => hashInt i
  | .text _ => 0
  | .tup ks => reduceHash (Builtin.Tuple.tupleHashOf (nhashes ks))
def nhashes : List NestedKey → List Int
  | [] => []
  | k :: ks => nhash k :: nhashes ks
end
/-- a dict by its entries: key, the key's address, the value -/
def DcO (p : Addr) (xs : List (NestedKey × Addr × Value)) : HO := .ext fun h => (p == sysModules) = false ∧ ∃ o es ep, h.get? p = some o ∧ o.ExactDict ∧ o.data = .dict es ep ∧ es.toList = xs.map (fun x => (⟨nhash x.1, .ref x.2.1, x.2.2⟩ : DictEntry))
/-- an entry as data -/
def EnR (K : PySem.W.Frag) (G : Hp) (kv : NestedKey × PyData) (x : NestedKey × Addr × Value) : Prop := kv.1 = x.1 ∧ Dp K G (.ref x.2.1) kv.1.data ∧ ∃ v, RelV v x.2.2 ∧ Dp K G v kv.2
def EnI (K : PySem.W.Frag) (G : Hp) (kv : Int × PyData) (x : Key × V) : Prop := x.1 = .inl kv.1 ∧ Dp K G x.2 kv.2
/-- keys that are good: tuples, no texts, not too deep -/
def goodK : NestedKey → Bool
  | .tup ks => okKs ks && decide ((NestedKey.tup ks).depth ≤ 8)
  | _ => false
where
  okK : NestedKey → Bool
  | .none => true
  | .num _ => true
  | .text _ => false
  | .tup ks => okKs ks
  okKs : List NestedKey → Bool
  | [] => true
  | k :: ks => okK k && okKs ks
/-- an object and what it is as data -/
def OR (K : PySem.W.Frag) (G : Hp) (p : Addr) (u : HO) : OD → Prop
  | .lst ds => ∃ vs, u = .lst vs ∧ DpAll K G vs ds
  | .dN kvs => ∃ xs, u = DcO p xs ∧ Paired (EnR K G) kvs xs ∧ (kvs.map (·.1)).Nodup ∧ kvs.length ≤ sizeLine ∧ ∀ x ∈ kvs, goodK x.1 = true
  | .dI kvs => ∃ ks, u = .dK ks ∧ Paired (EnI K G) kvs ks ∧ (kvs.map (·.1)).Nodup
  | .at q ds => ∃ vs, u = .lst vs ∧ q = p ∧ DpAll K G vs ds
/-- a tuple whose object is known to be plain -/
def PlT (H : Hp) (v : V) : Prop := ∃ a o xs, v = .ref a ∧ H a = some (.frz o (.tup xs)) ∧ o.dict = none
theorem PlT.up {G G' : Hp} {v : V} (h : PlT G v) (s : Same G G') : PlT G' v := let ⟨a, o, xs, e, b, c⟩ := h; ⟨a, o, xs, e, s _ _ b, c⟩
def InsR (K : PySem.W.Frag) (G : Hp) (v : V) (q : Addr) (mk : PyData) : Prop := ∃ p dx w, v = .ref p ∧ G p = some (.ins (He.ga K "Drawer") dx [("maker", w), ("past", .ref q)]) ∧ Dp K G w mk
theorem InsR.up {K : PySem.W.Frag} {G G' : Hp} {v : V} {q : Addr} {mk : PyData} (h : InsR K G v q mk) (s : Same G G') : InsR K G' v q mk := let ⟨p, dx, w, e, b, c⟩ := h; ⟨p, dx, w, e, s _ _ b, c.up s⟩
def FtR (K : PySem.W.Frag) (G : Hp) (v : V) : Ft → Prop
  | .ins q mk => InsR K G v q mk
  | .inss xs => ∃ a vs, v = .ref a ∧ SqL K G a vs ∧ Paired (fun (x : Addr × PyData) u => InsR K G u x.1 x.2) xs vs
  | .refs qs => ∃ a, v = .ref a ∧ SqL K G a (qs.map V.ref)
  | .pl d => Dp K G v d ∧ PlT G v
  | .plt ds => ∃ a xs, v = .ref a ∧ SqT K G a xs ∧ DpAll K G xs ds ∧ ∀ x, xs[1]? = some x → (∃ b, x = .ref b) → PlT G x
  | .fn f => v = .ref f
  | .dct kvs => ∃ a o xs, v = .ref a ∧ G a = some (.frz o (DcO a xs)) ∧ Paired (EnR K G) kvs xs ∧ (kvs.map (·.1)).Nodup ∧ kvs.length ≤ sizeLine ∧ ∀ x ∈ kvs, goodK x.1 = true
theorem FtR.up {K : PySem.W.Frag} {G G' : Hp} {v : V} {f : Ft} (h : FtR K G v f) (s : Same G G') : FtR K G' v f := by
  cases f with
  | ins q mk => exact InsR.up h s
  | inss xs => obtain ⟨a, vs, e, b, c⟩ := h; exact ⟨a, vs, e, s.seq b, L2.Paired.mapP c fun x u z => InsR.up z s⟩
  | refs qs => obtain ⟨a, e, b⟩ := h; exact ⟨a, e, s.seq b⟩
  | pl d => exact ⟨h.1.up s, h.2.up s⟩
  | plt ds => obtain ⟨a, xs, e, b, h1, c⟩ := h; exact ⟨a, xs, e, sqT_mono s b, h1.up s, fun x z y => (c x z y).up s⟩
  | fn f => exact h
  | dct kvs => obtain ⟨a, o, xs, e, b, c, r⟩ := h; exact ⟨a, o, xs, e, s _ _ b, L2.Paired.mapP c fun kv x ⟨h1, h2, v, h3, h4⟩ => ⟨h1, h2.up s, v, h3, h4.up s⟩, r⟩
theorem OR.notTbl {K : PySem.W.Frag} {G : Hp} {p : Addr} {u : HO} {o : OD} (h : OR K G p u o) : ∀ ps, u ≠ .tbl ps := by
  intro ps z
  subst z
  cases o with
  | lst ds => obtain ⟨_, e, _⟩ := h; cases e
  | dN kvs => obtain ⟨_, e, _⟩ := h; cases e
  | dI kvs => obtain ⟨_, e, _⟩ := h; cases e
  | «at» q ds => obtain ⟨_, e, _⟩ := h; cases e
theorem OR.up {K : PySem.W.Frag} {G G' : Hp} {p : Addr} {u : HO} {o : OD} (h : OR K G p u o) (s : Same G G') : OR K G' p u o := by
  cases o with
  | lst ds => obtain ⟨vs, e, a⟩ := h; exact ⟨vs, e, a.up s⟩
  | dN kvs => obtain ⟨xs, e, a, r⟩ := h; exact ⟨xs, e, L2.Paired.mapP a fun kv x ⟨h1, h2, v, h3, h4⟩ => ⟨h1, h2.up s, v, h3, h4.up s⟩, r⟩
  | dI kvs => obtain ⟨xs, e, a, r⟩ := h; exact ⟨xs, e, L2.Paired.mapP a fun kv x ⟨h1, h2⟩ => ⟨h1, h2.up s⟩, r⟩
  | «at» q ds => obtain ⟨vs, e, z, a⟩ := h; exact ⟨vs, e, z, a.up s⟩
theorem heap_size : ∀ n : Nat, ∃ h : Heap, h.objs.size = n
  | 0 => ⟨{ objs := #[] }, rfl⟩
  | n + 1 => let ⟨h, e⟩ := heap_size n; ⟨h.push { cls := .none, data := .fields #[] }, by rw [Heap.size_push, e]⟩
theorem dco_code {p c : Addr} {xs : List (NestedKey × Addr × Value)} {q : Str} (hc : c = p) : DcO p xs ≠ CodeO c q := by
  subst hc
  intro e
  unfold DcO CodeO at e
  have f := HO.ext.inj e
  obtain ⟨h, hs⟩ := heap_size c
  have g := congrFun f (h.push { cls := .none, data := .fields #[.none, .str q 0] })
  have hg : (h.push { cls := .none, data := .fields #[.none, .str q 0] }).get? c = some { cls := .none, data := .fields #[.none, .str q 0] } := by rw [← hs]; exact Heap.get?_push_size _ rfl
  have t : (∃ (oc : Obj) (vs : Array Value) (t : Tok), (h.push { cls := .none, data := .fields #[.none, .str q 0] }).get? c = some oc ∧ oc.data = .fields vs ∧ vs[1]? = some (.str q t)) := ⟨_, _, 0, hg, rfl, rfl⟩
  obtain ⟨_, o, es, ep, h1, _, h3, _⟩ := g.mpr t
  rw [hg] at h1
  cases h1
  cases h3
theorem OR.notCode {K : PySem.W.Frag} {G : Hp} {p : Addr} {u : HO} {o : OD} (h : OR K G p u o) : ∀ c q, c = p → u ≠ CodeO c q := by
  intro c q hc z
  cases o with
  | lst ds => obtain ⟨_, e, _⟩ := h; rw [e] at z; cases z
  | dN kvs => obtain ⟨_, e, _⟩ := h; rw [e] at z; exact dco_code hc z
  | dI kvs => obtain ⟨_, e, _⟩ := h; rw [e] at z; cases z
  | «at» q ds => obtain ⟨_, e, _⟩ := h; rw [e] at z; cases z
structure ER (K : PySem.W.Frag) (H0 : Hp) (r : Ev) (sg : L2.St) (H G : Hp) : Prop where
  len : r.length = sg.length
  dat : ∀ (i : Nat) d, r[i]? = some (.dat d) → ∃ v, sg[i]? = some (some v) ∧ Dp K G v d
  obj : ∀ (i : Nat) o, r[i]? = some (.obj o) → ∃ p u, sg[i]? = some (some (.ref p)) ∧ H p = some u ∧ G p = none ∧ NT H0 p ∧ OR K G p u o
  inj : ∀ (i j : Nat) o o' p, r[i]? = some (.obj o) → r[j]? = some (.obj o') → sg[i]? = some (some (.ref p)) → sg[j]? = some (some (.ref p)) → i = j
  fct : ∀ (i : Nat) f, r[i]? = some (.fct f) → ∃ v, sg[i]? = some (some v) ∧ FtR K G v f
theorem ER.own {K : PySem.W.Frag} {H0 : Hp} {r : Ev} {sg : L2.St} {H G : Hp} (e : ER K H0 r sg H G) (i : Nat) (ds : List PyData) (h : r[i]? = some (.own ds)) : ∃ p vs, sg[i]? = some (some (.ref p)) ∧ H p = some (.lst vs) ∧ G p = none ∧ NT H0 p ∧ DpAll K G vs ds := by
  obtain ⟨p, u, a, b, c, n, vs, e, d⟩ := e.obj i _ h
  subst e
  exact ⟨p, vs, a, b, c, n, d⟩

section
variable {K : PySem.W.Frag} {T : Tb} {H0 G0 H G H' G' : Hp} {r : Ev} {sg : L2.St}
theorem HR.noNewO (h : HR T H G H' G') {p : Addr} {u : HO} (hp : H p = some u) (hu : ∀ ps, u ≠ .tbl ps) (gp : G p = none) : G' p = none := by
  cases q : G' p with
  | none => rfl
  | some w =>
    rcases h.new p (by rw [q]; simp) with z | z
    · exact absurd gp z
    · obtain ⟨ps, e⟩ := z _ hp
      exact absurd e (hu ps)
theorem HR.noNew (h : HR T H G H' G') {p : Addr} {vs : List V} (hp : H p = some (.lst vs)) (gp : G p = none) : G' p = none := h.noNewO hp (fun ps q => by cases q) gp
theorem ER.grow (e : ER K H0 r sg H G) (h : HR T H G H' G') : ER K H0 r sg H' G' :=
  ⟨e.len, fun i d z => let ⟨v, a, b⟩ := e.dat i d z; ⟨v, a, b.up h.g0⟩, fun i o z => by
    obtain ⟨p, u, a, b, c, n, d⟩ := e.obj i o z
    exact ⟨p, u, a, h.ext p _ b d.notTbl, h.noNewO b d.notTbl c, n, d.up h.g0⟩, e.inj, fun i f z => let ⟨v, a, b⟩ := e.fct i f z; ⟨v, a, b.up h.g0⟩⟩
theorem getSet {α : Type} {l : List α} {i j : Nat} {x y : α} (h : (l.set i x)[j]? = some y) : (j = i ∧ y = x) ∨ (j ≠ i ∧ l[j]? = some y) := by
  by_cases e : i = j
  · subst e
    by_cases hl : i < l.length
    · rw [List.getElem?_set_self hl] at h; cases h; exact .inl ⟨rfl, rfl⟩
    · rw [List.getElem?_eq_none (by simpa using hl)] at h; cases h
  · rw [List.getElem?_set_ne e] at h; exact .inr ⟨fun q => e q.symm, h⟩
/-- a slot gets data -/
theorem ER.set (e : ER K H0 r sg H G) (i : Nat) {v : V} {d : PyData} (h : Dp K G v d) : ER K H0 (r.set i (.dat d)) (sg.set i (some v)) H G := by
  refine ⟨by simp [e.len], fun j d' z => ?_, fun j ds z => ?_, fun j k ds es p z z' y y' => ?_, fun j f z => ?_⟩
  · rcases getSet z with ⟨rfl, q⟩ | ⟨n, q⟩
    · cases q
      have hl : j < r.length := by
        have := (List.getElem?_eq_some_iff.mp z).1
        simpa using this
      exact ⟨v, List.getElem?_set_self (by rw [← e.len]; exact hl), h⟩
    · obtain ⟨w, a, b⟩ := e.dat j d' q
      exact ⟨w, by rw [List.getElem?_set_ne (Ne.symm n)]; exact a, b⟩
  · rcases getSet z with ⟨rfl, q⟩ | ⟨n, q⟩
    · cases q
    · obtain ⟨p, vs, a, b⟩ := e.obj j ds q
      exact ⟨p, vs, by rw [List.getElem?_set_ne (Ne.symm n)]; exact a, b⟩
  · rcases getSet z with ⟨_, q⟩ | ⟨n, q⟩
    · cases q
    · rcases getSet z' with ⟨_, q'⟩ | ⟨n', q'⟩
      · cases q'
      · rw [List.getElem?_set_ne (Ne.symm n)] at y
        rw [List.getElem?_set_ne (Ne.symm n')] at y'
        exact e.inj j k ds es p q q' y y'
  · rcases getSet z with ⟨_, q⟩ | ⟨n, q⟩
    · cases q
    · obtain ⟨w, a, b⟩ := e.fct j f q
      exact ⟨w, by rw [List.getElem?_set_ne (Ne.symm n)]; exact a, b⟩
/-- a slot is forgotten; what it holds may be anything -/
theorem ER.drop (e : ER K H0 r sg H G) (i : Nat) (o : Option V) : ER K H0 (r.set i .no) (sg.set i o) H G := by
  refine ⟨by simp [e.len], fun j d' z => ?_, fun j ds z => ?_, fun j k ds es p z z' y y' => ?_, fun j f z => ?_⟩
  · rcases getSet z with ⟨rfl, q⟩ | ⟨n, q⟩
    · cases q
    · obtain ⟨w, a, b⟩ := e.dat j d' q
      exact ⟨w, by rw [List.getElem?_set_ne (Ne.symm n)]; exact a, b⟩
  · rcases getSet z with ⟨rfl, q⟩ | ⟨n, q⟩
    · cases q
    · obtain ⟨p, vs, a, b⟩ := e.obj j ds q
      exact ⟨p, vs, by rw [List.getElem?_set_ne (Ne.symm n)]; exact a, b⟩
  · rcases getSet z with ⟨_, q⟩ | ⟨n, q⟩
    · cases q
    · rcases getSet z' with ⟨_, q'⟩ | ⟨n', q'⟩
      · cases q'
      · rw [List.getElem?_set_ne (Ne.symm n)] at y
        rw [List.getElem?_set_ne (Ne.symm n')] at y'
        exact e.inj j k ds es p q q' y y'
  · rcases getSet z with ⟨_, q⟩ | ⟨n, q⟩
    · cases q
    · obtain ⟨w, a, b⟩ := e.fct j f q
      exact ⟨w, by rw [List.getElem?_set_ne (Ne.symm n)]; exact a, b⟩
/-- a slot gets a thing that is known -/
theorem ER.setF (e : ER K H0 r sg H G) (i : Nat) {v : V} {f : Ft} (h : FtR K G v f) : ER K H0 (r.set i (.fct f)) (sg.set i (some v)) H G := by
  have e' := e.drop i (some v)
  have nd : ∀ (j : Nat) x, (r.set i (.fct f))[j]? = some x → x ≠ .fct f → (r.set i .no)[j]? = some x := fun j x z n => by
    rcases getSet z with ⟨_, q⟩ | ⟨hj, q⟩
    · exact absurd q n
    · rw [List.getElem?_set_ne (Ne.symm hj)]; exact q
  refine ⟨by simp [e.len], fun j d z => e'.dat j d (nd j _ z (by simp)), fun j o z => e'.obj j o (nd j _ z (by simp)), fun j k a b p z z' => e'.inj j k a b p (nd j _ z (by simp)) (nd k _ z' (by simp)), fun j g z => ?_⟩
  rcases getSet z with ⟨rfl, q⟩ | ⟨n, q⟩
  · cases q
    have hl : j < r.length := by
      have := (List.getElem?_eq_some_iff.mp z).1
      simpa using this
    exact ⟨v, List.getElem?_set_self (by rw [← e.len]; exact hl), h⟩
  · obtain ⟨w, a, b⟩ := e.fct j g q
    exact ⟨w, by rw [List.getElem?_set_ne (Ne.symm n)]; exact a, b⟩
/-- a slot gets a thing of its own -/
theorem ER.setObj (e : ER K H0 r sg H G) (i : Nat) {p : Addr} {u : HO} {o : OD} (hp : H p = some u) (gp : G p = none) (n0 : NT H0 p) (h : OR K G p u o) (nw : ∀ (j : Nat) es, j ≠ i → r[j]? = some (.obj es) → sg[j]? ≠ some (some (.ref p))) :
    ER K H0 (r.set i (.obj o)) (sg.set i (some (.ref p))) H G := by
  refine ⟨by simp [e.len], fun j d' z => ?_, fun j ds z => ?_, fun j k ds es q z z' y y' => ?_, fun j f z => ?_⟩
  · rcases getSet z with ⟨rfl, q⟩ | ⟨n, q⟩
    · cases q
    · obtain ⟨w, a, b⟩ := e.dat j d' q
      exact ⟨w, by rw [List.getElem?_set_ne (Ne.symm n)]; exact a, b⟩
  · rcases getSet z with ⟨rfl, q⟩ | ⟨n, q⟩
    · cases q
      have hl : j < r.length := by
        have := (List.getElem?_eq_some_iff.mp z).1
        simpa using this
      exact ⟨p, u, List.getElem?_set_self (by rw [← e.len]; exact hl), hp, gp, n0, h⟩
    · obtain ⟨p, vs, a, b⟩ := e.obj j ds q
      exact ⟨p, vs, by rw [List.getElem?_set_ne (Ne.symm n)]; exact a, b⟩
  · rcases getSet z with ⟨rfl, _⟩ | ⟨n, q1⟩
    · rcases getSet z' with ⟨rfl, _⟩ | ⟨n', q'⟩
      · rfl
      · have hl : j < sg.length := by
          have := (List.getElem?_eq_some_iff.mp y).1
          simpa using this
        rw [List.getElem?_set_self hl] at y
        cases y
        rw [List.getElem?_set_ne (Ne.symm n')] at y'
        exact absurd y' (nw k es n' q')
    · rcases getSet z' with ⟨rfl, _⟩ | ⟨n', q'⟩
      · have hl : k < sg.length := by
          have := (List.getElem?_eq_some_iff.mp y').1
          simpa using this
        rw [List.getElem?_set_self hl] at y'
        cases y'
        rw [List.getElem?_set_ne (Ne.symm n)] at y
        exact absurd y (nw j ds n q1)
      · rw [List.getElem?_set_ne (Ne.symm n)] at y
        rw [List.getElem?_set_ne (Ne.symm n')] at y'
        exact e.inj j k ds es q q1 q' y y'
  · rcases getSet z with ⟨_, q⟩ | ⟨n, q⟩
    · cases q
    · obtain ⟨w, a, b⟩ := e.fct j f q
      exact ⟨w, by rw [List.getElem?_set_ne (Ne.symm n)]; exact a, b⟩
/-- .. that was made just now -/
theorem ER.setNew (e : ER K H0 r sg H G) (h : HR T H G H' G') (h0 : HR T H0 G0 H G) (i : Nat) {p : Addr} {u : HO} {o : OD} (n : NT H p) (hp : H' p = some u) (gp : G' p = none) (a : OR K G' p u o) : ER K H0 (r.set i (.obj o)) (sg.set i (some (.ref p))) H' G' := by
  refine (e.grow h).setObj i hp gp (n.back h0.ext) a fun j es hj hr hs => ?_
  obtain ⟨p', u', a1, a2, _, _, a3⟩ := e.obj j es hr
  rw [hs] at a1
  cases a1
  obtain ⟨ps, e⟩ := n _ a2
  exact a3.notTbl ps e
end
end Fd
end
section
set_option Elab.async false
set_option linter.all false
set_option maxRecDepth 100000
set_option autoImplicit false
set_option maxHeartbeats 2000000
/-! Fd2: the judgements over data (FE, FT, FA, FQ, FI, FG, FS, FSs), their plain rules, calls of defs, a def by its body. -/
namespace Fd
open PySem PySem.Spec PyProof.Rows L2 LamX

abbrev M (A : Type) := (A → Prop) → (Value → Prop) → Prop
abbrev DE := Ev → M PyData
abbrev DA := Ev → M (List PyData)
abbrev DT := Ev → M Bool
abbrev DQ := Ev → (Bool → List PyData → Prop) → (Value → Prop) → Prop
abbrev DG := PyData → Ev → (Ev → Prop) → Prop
abbrev DGs := List PyData → Ev → (Ev → Prop) → Prop
structure DEnds where
  nx : Ev → Prop
  rt : PyData → Prop
  bk : Ev → Prop := fun _ => False
  ct : Ev → Prop := fun _ => False
  ex : Value → Prop := fun _ => False
abbrev DS := DEnds → Ev → Prop

/-- a sequence that is read: a list or a tuple -/
def SqA (K : PySem.W.Frag) (H : Hp) (a : Addr) (vs : List V) : Bool → Prop
  | true => SqL K H a vs
  | false => SqT K H a vs

section
variable (K : PySem.W.Frag) (T : Tb) (E : XK)
/-- what is wanted of an exception -/
def Xc (H G : Hp) (Ed : Value → Prop) : Prop := ∀ c H' G', HR T H G H' G' → Ed c → E c none H'
def lf (t : DE) : TE := fun sg H Q => ∃ H0 G0 r G Qd Ed, HR T H0 G0 H G ∧ ER K H0 r sg H G ∧ t r Qd Ed ∧
  (∀ d v H' G', HR T H G H' G' → Dp K G' v d → Qd d → Q v H') ∧ Xc T E H G Ed
def lfT (t : DT) : TT := fun sg H Q => ∃ H0 G0 r G Qd Ed, HR T H0 G0 H G ∧ ER K H0 r sg H G ∧ t r Qd Ed ∧
  (∀ b H' G', HR T H G H' G' → Qd b → Q b H') ∧ Xc T E H G Ed
def lfA (t : DA) : TA := fun sg H Q => ∃ H0 G0 r G Qd Ed, HR T H0 G0 H G ∧ ER K H0 r sg H G ∧ t r Qd Ed ∧
  (∀ ds vs H' G', HR T H G H' G' → DpAll K G' vs ds → Qd ds → Q vs H') ∧ Xc T E H G Ed
def lfQ (t : DQ) : TE := fun sg H Q => ∃ H0 G0 r G Qd Ed, HR T H0 G0 H G ∧ ER K H0 r sg H G ∧ t r Qd Ed ∧
  (∀ b ds a vs H' G', HR T H G H' G' → SqA K H' a vs b → DpAll K G' vs ds → Qd b ds → Q (.ref a) H') ∧ Xc T E H G Ed
/-- a list that was made just now -/
def lfN (t : DA) : TE := fun sg H Q => ∃ H0 G0 r G Qd Ed, HR T H0 G0 H G ∧ ER K H0 r sg H G ∧ t r Qd Ed ∧
  (∀ ds p vs H' G', HR T H G H' G' → NT H p → H' p = some (.lst vs) → G' p = none → DpAll K G' vs ds → Qd ds → Q (.ref p) H') ∧ Xc T E H G Ed
/-- what a walk gives, as data; P: what keeps it going -/
structure WalkD (J : It) (ds : List PyData) (G1 : Hp) (P : Hp → Prop) : Prop where
  goes : ∀ i H, i < ds.length → P H → J.go i H
  stops : ∀ H, P H → J.stop ds.length H
  yields : ∀ i H G x H', i < ds.length → P H → HR T H G H G → Same G1 G → J.yld i H x H' → ∃ G' d, ds[i]? = some d ∧ HR T H G H' G' ∧ Dp K G' x d
/-- fz: the walked thing is frozen -/
def lfI (fz : Bool) (t : DA) : TI := fun sg H R => ∃ H0 G0 r G Qd Ed, HR T H0 G0 H G ∧ ER K H0 r sg H G ∧ t r Qd Ed ∧
  (∀ ds J P H' G', HR T H G H' G' → WalkD K T J ds G' P → (∀ H2, ExtN H' H2 → P H2) → (fz = true → ∀ H2, Same G' H2 → P H2) → Qd ds → R J H') ∧ Xc T E H G Ed
/-- slots outside of is stay -/
def lfG (is : List Nat) (g : DG) : TG := fun v sg H Q => ∃ H0 G0 r G d Qd, HR T H0 G0 H G ∧ ER K H0 r sg H G ∧ Dp K G v d ∧ g d r Qd ∧
  ∀ r' sg' H' G', HR T H G H' G' → ER K H0 r' sg' H' G' → sg'.length = sg.length → (∀ j, j ∉ is → sg'[j]? = sg[j]?) → Qd r' → Q sg' H'
def lfGs (is : List Nat) (g : DGs) : TGs := fun vs sg H Q => ∃ H0 G0 r G ds Qd, HR T H0 G0 H G ∧ ER K H0 r sg H G ∧ DpAll K G vs ds ∧ g ds r Qd ∧
  ∀ r' sg' H' G', HR T H G H' G' → ER K H0 r' sg' H' G' → sg'.length = sg.length → (∀ j, j ∉ is → sg'[j]? = sg[j]?) → Qd r' → Q sg' H'
/-- the ends of a statement -/
structure EndR (H0 G0 G : Hp) (Dd : DEnds) (D : Ends) : Prop where
  nx : ∀ r sg H' G', HR T H0 G0 H' G' → Same G G' → ER K H0 r sg H' G' → Dd.nx r → D.nx sg H'
  bk : ∀ r sg H' G', HR T H0 G0 H' G' → Same G G' → ER K H0 r sg H' G' → Dd.bk r → D.bk sg H'
  ct : ∀ r sg H' G', HR T H0 G0 H' G' → Same G G' → ER K H0 r sg H' G' → Dd.ct r → D.ct sg H'
  rt : ∀ d v H' G', HR T H0 G0 H' G' → Dp K G' v d → Dd.rt d → D.rt v H'
  ex : ∀ c H' G', HR T H0 G0 H' G' → Dd.ex c → E c none H'
def lfS (t : DS) : TS := fun D sg H => ∃ H0 G0 r G Dd, HR T H0 G0 H G ∧ ER K H0 r sg H G ∧ t Dd r ∧ EndR K T E H0 G0 G Dd D
end

section
variable (X : Cx) (T : Tb) (E : XK)
structure FE (e : Expr) (t : DE) : Prop where
  pe : PE X e (lf X.K T E t)
structure FT (e : Expr) (t : DT) : Prop where
  pt : PT X e (lfT X.K T E t)
structure FW (e : Expr) (t : DT) : Prop where
  pw : PW X e (lfT X.K T E t)
structure FTs (e : List Expr) (t : DT) : Prop where
  pts : PTs X e (lfT X.K T E t)
structure FA (es : List Expr) (t : DA) : Prop where
  pa : PA X es (lfA X.K T E t)
structure FQ (e : Expr) (t : DQ) : Prop where
  pe : PE X e (lfQ X.K T E t)
structure FN (e : Expr) (t : DA) : Prop where
  pe : PE X e (lfN X.K T E t)
structure FI (fz : Bool) (tg iter : Expr) (t : DA) : Prop where
  pi : PI X tg iter (lfI X.K T E fz t)
structure FG (is : List Nat) (tg : Expr) (g : DG) : Prop where
  pg : PG X tg (lfG X.K T is g)
structure FGs (is : List Nat) (tg : List Expr) (g : DGs) : Prop where
  pgs : PGs X tg (lfGs X.K T is g)
structure FS (st : Stmt) (t : DS) : Prop where
  ps : PS X st (lfS X.K T E t)
structure FSs (st : List Stmt) (t : DS) : Prop where
  pss : PSs X st (lfS X.K T E t)
end

section
variable {X : Cx} {T : Tb} {E : XK} {e a b : Expr} {es : List Expr} {pos : Pos}
theorem FE.mk' {t : DE} {te : TE} (h : PE X e te) (q : ∀ sg H Q, lf X.K T E t sg H Q → te sg H Q) : FE X T E e t := ⟨⟨fun pins s sg H Q I w => h.run pins s sg H Q I (q sg H Q w)⟩⟩
theorem FT.mk' {t : DT} {te : TT} (h : PT X e te) (q : ∀ sg H Q, lfT X.K T E t sg H Q → te sg H Q) : FT X T E e t := ⟨⟨fun pins s sg H Q I w => h.run pins s sg H Q I (q sg H Q w)⟩⟩
theorem FW.mk' {t : DT} {te : TT} (h : PW X e te) (q : ∀ sg H Q, lfT X.K T E t sg H Q → te sg H Q) : FW X T E e t := ⟨⟨fun wh pins s sg H Q I w => h.run wh pins s sg H Q I (q sg H Q w)⟩⟩
theorem FTs.mk' {t : DT} {te : TT} (h : PTs X es te) (q : ∀ sg H Q, lfT X.K T E t sg H Q → te sg H Q) : FTs X T E es t := ⟨⟨fun pins s sg H Q I w => h.run pins s sg H Q I (q sg H Q w)⟩⟩
theorem FA.mk' {t : DA} {te : TA} (h : PA X es te) (q : ∀ sg H Q, lfA X.K T E t sg H Q → te sg H Q) : FA X T E es t := ⟨⟨fun pos pins s sg H Q I w => h.run pos pins s sg H Q I (q sg H Q w)⟩⟩
theorem FQ.mk' {t : DQ} {te : TE} (h : PE X e te) (q : ∀ sg H Q, lfQ X.K T E t sg H Q → te sg H Q) : FQ X T E e t := ⟨⟨fun pins s sg H Q I w => h.run pins s sg H Q I (q sg H Q w)⟩⟩
theorem FN.mk' {t : DA} {te : TE} (h : PE X e te) (q : ∀ sg H Q, lfN X.K T E t sg H Q → te sg H Q) : FN X T E e t := ⟨⟨fun pins s sg H Q I w => h.run pins s sg H Q I (q sg H Q w)⟩⟩
theorem FI.mk' {fz : Bool} {tg : Expr} {t : DA} {wi : TI} (h : PI X tg e wi) (q : ∀ sg H R, lfI X.K T E fz t sg H R → wi sg H R) : FI X T E fz tg e t := ⟨⟨fun pins s sg H R I w => h.run pins s sg H R I (q sg H R w)⟩⟩
theorem FG.mk' {is : List Nat} {tg : Expr} {t : DG} {g : TG} (h : PG X tg g) (q : ∀ v sg H Q, lfG X.K T is t v sg H Q → g v sg H Q) : FG X T is tg t := ⟨⟨fun pins s sg H v u Q I r w => h.run pins s sg H v u Q I r (q v sg H Q w)⟩⟩
theorem FGs.mk' {is : List Nat} {tg : List Expr} {t : DGs} {g : TGs} (h : PGs X tg g) (q : ∀ v sg H Q, lfGs X.K T is t v sg H Q → g v sg H Q) : FGs X T is tg t := ⟨⟨fun pins s sg H v u Q I r w => h.run pins s sg H v u Q I r (q v sg H Q w)⟩⟩
theorem FS.mk' {st : Stmt} {t : DS} {te : TS} (h : PS X st te) (q : ∀ D sg H, lfS X.K T E t D sg H → te D sg H) : FS X T E st t := ⟨⟨fun pins s sg H D I w => h.run pins s sg H D I (q D sg H w)⟩⟩
theorem FSs.mk' {st : List Stmt} {t : DS} {te : TS} (h : PSs X st te) (q : ∀ D sg H, lfS X.K T E t D sg H → te D sg H) : FSs X T E st t := ⟨⟨fun pins s sg H D I w => h.run pins s sg H D I (q D sg H w)⟩⟩
theorem Xc.up {H G H' G' : Hp} {Ed : Value → Prop} (x : Xc T E H G Ed) (h : HR T H G H' G') : Xc T E H' G' Ed := fun c H2 G2 z => x c H2 G2 (h.trans z)

/-! ### names and constants -/
@[simp] def dVar (i : Nat) : DE := fun r Q _ => ∃ d, r[i]? = some (.dat d) ∧ Q d
theorem fe_var (i : Nat) {x : Str} (hN : X.N[i]? = some x := by rfl) (hv : Vis X.env.scope x := by first | exact Or.inl rfl | exact Or.inr (Or.inl rfl) | exact Or.inr (Or.inr rfl)) (hd : (x == ("__debug__" : Str)) = false := by decide)
    (hcd : (x == ("__classdict__" : Str)) = false := by decide) : FE X T E (.Name x pos) (dVar i) := by
  refine FE.mk' (pe_var hN hv hd hcd) fun sg H Q ⟨H0, G0, r, G, Qd, Ed, h, er, ⟨d, hd, q⟩, k, x⟩ => ?_
  obtain ⟨v, a, b⟩ := er.dat i d hd
  exact ⟨v, a, k d v H G h.refl b q⟩
@[simp] def dC (d : PyData) : DE := fun _ Q _ => Q d
theorem fe_c {d : PyData} {v : V} (h : PE X e (tC v)) (hd : ∀ G, Dp X.K G v d) : FE X T E e (dC d) :=
  FE.mk' h fun sg H Q ⟨H0, G0, r, G, Qd, Ed, h, er, q, k, x⟩ => k d v H G h.refl (hd G) q
theorem fe_int {i j} : FE X T E (.Constant (.int i) j pos) (dC (.int i)) := fe_c pe_int fun _ => .int i
theorem fe_bl {i j} : FE X T E (.Constant (.bool i) j pos) (dC (.bool i)) := fe_c pe_bl fun _ => .bl i
theorem fe_non {j} : FE X T E (.Constant .none j pos) (dC .none) := fe_c pe_non fun _ => .non
theorem fe_str {i j} : FE X T E (.Constant (.str i) j pos) (dC (.str i)) := fe_c pe_str fun _ => .str i
/-- a module's constant -/
theorem fe_gint {x : Str} {i : Int} (hg : Gl X x) (hm : ∃ t, X.mg x = some (.int i t)) (hd : (x == ("__debug__" : Str)) = false := by decide) : FE X T E (.Name x pos) (dC (.int i)) := by
  obtain ⟨t, hm⟩ := hm
  exact fe_c (pe_glob hg hm (v := .int i) ⟨t, rfl⟩ hd) fun _ => .int i
theorem fe_gstr {x : Str} {i : Str} (hg : Gl X x) (hm : ∃ t, X.mg x = some (.str i t)) (hd : (x == ("__debug__" : Str)) = false := by decide) : FE X T E (.Name x pos) (dC (.str i)) := by
  obtain ⟨t, hm⟩ := hm
  exact fe_c (pe_glob hg hm (v := .str i) ⟨t, rfl⟩ hd) fun _ => .str i

/-! ### operators -/
def OpD (K : PySem.W.Frag) (T : Tb) (r : R2) (f : PyData → PyData → M PyData) : Prop := ∀ x y d1 d2 H G Qd Ed (Q : VK), HR T H G H G → Dp K G x d1 → Dp K G y d2 → f d1 d2 Qd Ed →
  (∀ d v H' G', HR T H G H' G' → Dp K G' v d → Qd d → Q v H') → r x y H Q
@[simp] def dOp (f : PyData → PyData → M PyData) (ta tb : DE) : DE := fun r Q E => ta r (fun x => tb r (fun y => f x y Q E) E) E
theorem two {ta tb : DE} {f : PyData → PyData → M PyData} {rr : R2} (hd : OpD X.K T rr f) : ∀ sg H Q, lf X.K T E (dOp f ta tb) sg H Q → tOp rr (lf X.K T E ta) (lf X.K T E tb) sg H Q := by
  intro sg H Q ⟨H0, G0, r, G, Qd, Ed, h, er, w, k, x⟩
  refine ⟨H0, G0, r, G, _, Ed, h, er, w, fun d1 v1 H1 G1 h1 p1 w1 => ?_, x⟩
  refine ⟨H0, G0, r, G1, _, Ed, h.trans h1, er.grow h1, w1, fun d2 v2 H2 G2 h2 p2 w2 => ?_, x.up h1⟩
  exact hd v1 v2 d1 d2 H2 G2 Qd Ed Q h2.refl (p1.up h2.g0) p2 w2 fun d v H' G' z => k d v H' G' ((h1.trans h2).trans z)
theorem fe_op {op : Operator} {rr : R2} {f : PyData → PyData → M PyData} {ta tb : DE} (ho : OpR X (binaryOp op) rr) (hd : OpD X.K T rr f) (ha : FE X T E a ta) (hb : FE X T E b tb) : FE X T E (.BinOp a op b pos) (dOp f ta tb) :=
  FE.mk' (pe_op ho ha.pe hb.pe) (two hd)
theorem fe_cmp {op : CmpOp} {rr : R2} {f : PyData → PyData → M PyData} {ta tb : DE} (ho : OpR X (compareOp op) rr) (hd : OpD X.K T rr f) (ha : FE X T E a ta) (hb : FE X T E b tb) (hm : behindInMarks op b = false) : FE X T E (.Compare a [op] [b] pos) (dOp f ta tb) :=
  FE.mk' (pe_cmpR ho ha.pe hb.pe hm) (two hd)
/-- a test of what is True or False -/
@[simp] def dTest (t : DE) : DT := fun r Q E => t r (fun d => ∃ k, d = .bool k ∧ Q k) E
theorem lf_test {t : DE} : ∀ sg H Q, lfT X.K T E (dTest t) sg H Q → tTest (lf X.K T E t) sg H Q := by
  intro sg H Q ⟨H0, G0, r, G, Qd, Ed, h, er, w, k, x⟩
  refine ⟨H0, G0, r, G, _, Ed, h, er, w, fun d v H' G' z p ⟨c, e, q⟩ => ?_, x⟩
  subst e
  cases p
  exact ⟨c, rfl, k c H' G' z q⟩
theorem lf_mono {t : DE} {sg : L2.St} {H : Hp} {Q Q' : VK} (h : lf X.K T E t sg H Q) (hq : ∀ v H', Q v H' → Q' v H') : lf X.K T E t sg H Q' := by
  obtain ⟨H0, G0, r, G, Qd, Ed, h, er, w, k, x⟩ := h
  exact ⟨H0, G0, r, G, Qd, Ed, h, er, w, fun d v H' G' z p q => hq _ _ (k d v H' G' z p q), x⟩
theorem ft_cmp {op : CmpOp} {rr : R2} {f : PyData → PyData → M PyData} {ta tb : DE} (ho : OpR X (compareOp op) rr) (hd : OpD X.K T rr f) (ha : FE X T E a ta) (hb : FE X T E b tb) (hm : behindInMarks op b = false) : FT X T E (.Compare a [op] [b] pos) (dTest (dOp f ta tb)) :=
  FT.mk' (pt_cmpR ho ha.pe hb.pe hm) fun sg H Q w => two hd _ _ _ (lf_test _ _ _ w)
/-- a < b < c -/
@[simp] def dChain (f g : PyData → PyData → M PyData) (ta tb tc : DE) : DE := fun r Q E => ta r (fun x => tb r (fun y => f x y (fun z => ∃ k, z = .bool k ∧ if k = true then tc r (fun u => g y u Q E) E else Q (.bool false)) E) E) E
theorem lf_chain {f g : PyData → PyData → M PyData} {ta tb tc : DE} {rr r2 : R2} (hd : OpD X.K T rr f) (hd2 : OpD X.K T r2 g) : ∀ sg H Q, lf X.K T E (dChain f g ta tb tc) sg H Q → tChain rr r2 (lf X.K T E ta) (lf X.K T E tb) (lf X.K T E tc) sg H Q := by
  intro sg H Q ⟨H0, G0, r, G, Qd, Ed, h, er, w, k, x⟩
  refine ⟨H0, G0, r, G, _, Ed, h, er, w, fun d1 v1 H1 G1 h1 p1 w1 => ?_, x⟩
  refine ⟨H0, G0, r, G1, _, Ed, h.trans h1, er.grow h1, w1, fun d2 v2 H2 G2 h2 p2 w2 => ?_, x.up h1⟩
  refine hd v1 v2 d1 d2 H2 G2 _ Ed _ h2.refl (p1.up h2.g0) p2 w2 fun d v H3 G3 h3 p3 ⟨c, e, q⟩ => ?_
  subst e
  cases p3
  refine ⟨c, rfl, ?_⟩
  have h13 := (h1.trans h2).trans h3
  cases c with
  | true =>
    rw [if_pos rfl] at q ⊢
    refine ⟨H0, G0, r, G3, _, Ed, h.trans h13, er.grow h13, q, fun d4 v4 H4 G4 h4 p4 w4 => ?_, x.up h13⟩
    exact hd2 v2 v4 d2 d4 H4 G4 Qd Ed Q h4.refl (p2.up (h3.g0.trans h4.g0)) p4 w4 fun d v H' G' z => k d v H' G' ((h13.trans h4).trans z)
  | false =>
    rw [if_neg Bool.false_ne_true] at q ⊢
    exact k _ _ H3 G3 h13 (.bl false) q
theorem fe_chain {op op' : CmpOp} {rr r2 : R2} {f g : PyData → PyData → M PyData} {c : Expr} {ta tb tc : DE} (ho : OpR X (compareOp op) rr) (ho2 : OpR X (compareOp op') r2) (hd : OpD X.K T rr f) (hd2 : OpD X.K T r2 g) (ha : FE X T E a ta) (hb : FE X T E b tb) (hc : FE X T E c tc)
    (hm : lastMarks [op, op'] [b, c] = false := by with_unfolding_all rfl) : FE X T E (.Compare a [op, op'] [b, c] pos) (dChain f g ta tb tc) := FE.mk' (pe_chain ho ho2 ha.pe hb.pe hc.pe hm) (lf_chain hd hd2)
theorem ft_chain {op op' : CmpOp} {rr r2 : R2} {f g : PyData → PyData → M PyData} {c : Expr} {ta tb tc : DE} (ho : OpR X (compareOp op) rr) (ho2 : OpR X (compareOp op') r2) (hd : OpD X.K T rr f) (hd2 : OpD X.K T r2 g) (ha : FE X T E a ta) (hb : FE X T E b tb) (hc : FE X T E c tc)
    (hm : lastMarks [op, op'] [b, c] = false := by with_unfolding_all rfl) : FT X T E (.Compare a [op, op'] [b, c] pos) (dTest (dChain f g ta tb tc)) :=
  FT.mk' (pt_chain ho ho2 ha.pe hb.pe hc.pe hm) fun sg H Q w => lf_chain hd hd2 _ _ _ (lf_test _ _ _ w)

/-! ### truth, and, or, not -/
def dTru : PyData → M Bool
  | .none, Q, _ => Q false
  | .bool b, Q, _ => Q b
  | .int i, Q, _ => Q (i != 0)
  | .str y, Q, _ => y.length ≤ sizeLine ∧ Q ((y.length : Int) != 0)
  | .list ds, Q, _ => Q (!ds.isEmpty)
  | .tuple ds, Q, _ => Q (!ds.isEmpty)
  | .dict _, _, _ => False
theorem isEmpty_len {A B : Type} {xs : List A} {ys : List B} (h : xs.length = ys.length) : xs.isEmpty = ys.isEmpty := by
  cases xs <;> cases ys <;> simp at h ⊢
theorem tru_of {K : PySem.W.Frag} {G H : Hp} {v : V} {d : PyData} {Qd : Bool → Prop} {Ed : Value → Prop} (p : Dp K G v d) (s : Same G H) (w : dTru d Qd Ed) : ∃ k, TruV K v H k ∧ Qd k := by
  cases p with
  | non => exact ⟨_, rfl, w⟩
  | bl b => exact ⟨_, rfl, w⟩
  | int i => exact ⟨_, rfl, w⟩
  | str x => exact ⟨_, ⟨w.1, rfl⟩, w.2⟩
  | lst hs ha => exact ⟨_, .inl ⟨_, s.seq hs, rfl⟩, by rw [isEmpty_len ha.len]; exact w⟩
  | tup hs ha => exact ⟨_, .inr (.inl ⟨_, sqT_mono s hs, rfl⟩), by rw [isEmpty_len ha.len]; exact w⟩
@[simp] def dTruth (t : DE) : DT := fun r Q E => t r (fun d => dTru d Q E) E
theorem ft_truth {ta : DE} (ha : FE X T E a ta) (he : ∀ whole, isTrue a X.env whole = (do let v ← whole; standAt a.pos; holding [v] (truthy v)) := by intro _; rfl) : FT X T E a (dTruth ta) := by
  refine FT.mk' (pt_truth ha.pe he) fun sg H Q ⟨H0, G0, r, G, Qd, Ed, h, er, w, k, x⟩ => ?_
  refine ⟨H0, G0, r, G, _, Ed, h, er, w, fun d v H' G' z p q => ?_, x⟩
  obtain ⟨c, c1, c2⟩ := tru_of p z.sub q
  exact ⟨c, c1, k c H' G' z c2⟩
@[simp] def dAnd (t u : DT) : DT := fun r Q E => t r (fun c => if c = true then u r Q E else Q false) E
@[simp] def dOr (t u : DT) : DT := fun r Q E => t r (fun c => if c = true then Q true else u r Q E) E
@[simp] def dNot (t : DT) : DT := fun r Q E => t r (fun c => Q (!c)) E
variable {rest : List Expr} {t u : DT}
theorem fw_and1 (ha : FT X T E a t) : FW X T E (.BoolOp .And [a] pos) t := ⟨pw_and1 ha.pt⟩
theorem fw_or1 (ha : FT X T E a t) : FW X T E (.BoolOp .Or [a] pos) t := ⟨pw_or1 ha.pt⟩
theorem fw_and (ha : FT X T E a t) (hb : FW X T E (.BoolOp .And (b :: rest) pos) u) : FW X T E (.BoolOp .And (a :: b :: rest) pos) (dAnd t u) := by
  refine FW.mk' (pw_and ha.pt hb.pw) fun sg H Q ⟨H0, G0, r, G, Qd, Ed, h, er, w, k, x⟩ => ?_
  refine ⟨H0, G0, r, G, _, Ed, h, er, w, fun c H' G' z q => ?_, x⟩
  cases c with
  | true => exact iteT ⟨H0, G0, r, G', Qd, Ed, h.trans z, er.grow z, by rw [if_pos rfl] at q; exact q, fun b H2 G2 z2 => k b H2 G2 (z.trans z2), x.up z⟩
  | false => exact iteF (k false H' G' z (by rw [if_neg Bool.false_ne_true] at q; exact q))
theorem fw_or (ha : FT X T E a t) (hb : FW X T E (.BoolOp .Or (b :: rest) pos) u) : FW X T E (.BoolOp .Or (a :: b :: rest) pos) (dOr t u) := by
  refine FW.mk' (pw_or ha.pt hb.pw) fun sg H Q ⟨H0, G0, r, G, Qd, Ed, h, er, w, k, x⟩ => ?_
  refine ⟨H0, G0, r, G, _, Ed, h, er, w, fun c H' G' z q => ?_, x⟩
  cases c with
  | false => exact iteF ⟨H0, G0, r, G', Qd, Ed, h.trans z, er.grow z, by rw [if_neg Bool.false_ne_true] at q; exact q, fun b H2 G2 z2 => k b H2 G2 (z.trans z2), x.up z⟩
  | true => exact iteT (k true H' G' z (by rw [if_pos rfl] at q; exact q))
theorem FW.ft (h : FW X T E e t) : FT X T E e t := ⟨h.pw.pt⟩
theorem ft_not (ha : FT X T E a t) : FT X T E (.UnaryOp .Not a pos) (dNot t) := by
  refine FT.mk' (pt_not ha.pt) fun sg H Q ⟨H0, G0, r, G, Qd, Ed, h, er, w, k, x⟩ => ?_
  exact ⟨H0, G0, r, G, _, Ed, h, er, w, fun c H' G' z q => k (!c) H' G' z q, x⟩
/-- .. as values, all but the last True or False -/
@[simp] def dAndV (ta tb : DE) : DE := fun r Q E => ta r (fun d => ∃ c, d = .bool c ∧ if c = true then tb r Q E else Q (.bool false)) E
@[simp] def dOrV (ta tb : DE) : DE := fun r Q E => ta r (fun d => ∃ c, d = .bool c ∧ if c = true then Q (.bool true) else tb r Q E) E
@[simp] def dNotV (t : DE) : DE := fun r Q E => t r (fun d => ∃ c, d = .bool c ∧ Q (.bool (!c))) E
variable {ta tb : DE}
theorem fe_one {op} (h : FE X T E a ta) : FE X T E (.BoolOp op [a] pos) ta := ⟨pe_one h.pe⟩
theorem fe_and (ha : FE X T E a ta) (hb : FE X T E (.BoolOp .And (b :: rest) pos) tb) : FE X T E (.BoolOp .And (a :: b :: rest) pos) (dAndV ta tb) := by
  refine FE.mk' (pe_and ha.pe hb.pe) fun sg H Q ⟨H0, G0, r, G, Qd, Ed, h, er, w, k, x⟩ => ?_
  refine ⟨H0, G0, r, G, _, Ed, h, er, w, fun d v H' G' z p ⟨c, e, q⟩ => ?_, x⟩
  subst e
  cases p
  refine ⟨c, rfl, ?_⟩
  cases c with
  | true => exact iteT ⟨H0, G0, r, G', Qd, Ed, h.trans z, er.grow z, by rw [if_pos rfl] at q; exact q, fun d v H2 G2 z2 => k d v H2 G2 (z.trans z2), x.up z⟩
  | false => exact iteF (k _ _ H' G' z (.bl false) (by rw [if_neg Bool.false_ne_true] at q; exact q))
theorem fe_or (ha : FE X T E a ta) (hb : FE X T E (.BoolOp .Or (b :: rest) pos) tb) : FE X T E (.BoolOp .Or (a :: b :: rest) pos) (dOrV ta tb) := by
  refine FE.mk' (pe_or ha.pe hb.pe) fun sg H Q ⟨H0, G0, r, G, Qd, Ed, h, er, w, k, x⟩ => ?_
  refine ⟨H0, G0, r, G, _, Ed, h, er, w, fun d v H' G' z p ⟨c, e, q⟩ => ?_, x⟩
  subst e
  cases p
  refine ⟨c, rfl, ?_⟩
  cases c with
  | false => exact iteF ⟨H0, G0, r, G', Qd, Ed, h.trans z, er.grow z, by rw [if_neg Bool.false_ne_true] at q; exact q, fun d v H2 G2 z2 => k d v H2 G2 (z.trans z2), x.up z⟩
  | true => exact iteT (k _ _ H' G' z (.bl true) (by rw [if_pos rfl] at q; exact q))
theorem fe_not (ha : FE X T E a ta) : FE X T E (.UnaryOp .Not a pos) (dNotV ta) := by
  refine FE.mk' (pe_not ha.pe) fun sg H Q ⟨H0, G0, r, G, Qd, Ed, h, er, w, k, x⟩ => ?_
  refine ⟨H0, G0, r, G, _, Ed, h, er, w, fun d v H' G' z p ⟨c, e, q⟩ => ?_, x⟩
  subst e
  cases p
  exact ⟨c, rfl, k _ _ H' G' z (.bl _) q⟩

/-! ### arguments, displays -/
@[simp] def dNil : DA := fun _ Q _ => Q []
@[simp] def dCons (t : DE) (u : DA) : DA := fun r Q E => t r (fun x => u r (fun xs => Q (x :: xs)) E) E
theorem fa_nil : FA X T E [] dNil := FA.mk' pa_nil fun sg H Q ⟨H0, G0, r, G, Qd, Ed, h, er, w, k, x⟩ => k [] [] H G h.refl .nil w
theorem fa_cons {tr : DA} (ha : FE X T E e ta) (hr : FA X T E es tr) (hs : starEach (e :: es) X.env = (false, eval e X.env) :: starEach es X.env := by rfl) : FA X T E (e :: es) (dCons ta tr) := by
  refine FA.mk' (pa_cons ha.pe hr.pa hs) fun sg H Q ⟨H0, G0, r, G, Qd, Ed, h, er, w, k, x⟩ => ?_
  refine ⟨H0, G0, r, G, _, Ed, h, er, w, fun d1 v1 H1 G1 h1 p1 w1 => ?_, x⟩
  refine ⟨H0, G0, r, G1, _, Ed, h.trans h1, er.grow h1, w1, fun ds vs H2 G2 h2 p2 w2 => ?_, x.up h1⟩
  exact k _ _ H2 G2 (h1.trans h2) (.cons (p1.up h2.g0) p2) w2
@[simp] def dTup (t : DA) : DE := fun r Q E => t r (fun ds => ds.length ≤ sizeLine ∧ Q (.tuple ds)) E
@[simp] def dLst (t : DA) : DA := fun r Q E => t r (fun ds => ds.length ≤ sizeLine ∧ Q ds) E
@[simp] def dAsL (t : DA) : DE := fun r Q E => t r (fun ds => Q (.list ds)) E
theorem fe_tup {ts : DA} {x1} (h : FA X T E es ts) : FE X T E (.Tuple es x1 pos) (dTup ts) := by
  refine FE.mk' (pe_tup h.pa) fun sg H Q ⟨H0, G0, r, G, Qd, Ed, h, er, w, k, x⟩ => ?_
  refine ⟨H0, G0, r, G, _, Ed, h, er, w, fun ds vs H1 G1 h1 p1 w1 => ?_, x⟩
  refine ⟨by rw [p1.len]; exact w1.1, fun p hp => ?_⟩
  have z := h1.laid hp (o := .tup vs) (fun ps q => by cases q)
  exact k _ _ _ _ (h1.trans z) (.tup (SqT.of upd_same) (p1.up z.g0)) w1.2
theorem fn_lst {ts : DA} (h : FA X T E es ts) : FN X T E (.List es pos) (dLst ts) := by
  refine FN.mk' (pe_lst h.pa) fun sg H Q ⟨H0, G0, r, G, Qd, Ed, h, er, w, k, x⟩ => ?_
  refine ⟨H0, G0, r, G, _, Ed, h, er, w, fun ds vs H1 G1 h1 p1 w1 => ?_, x⟩
  refine ⟨by rw [p1.len]; exact w1.1, fun p hp => ?_⟩
  have gp : G1 p = none := by
    cases q : G1 p with
    | none => rfl
    | some u => rw [h1.sub p u q] at hp; cases hp
  exact k _ p vs _ G1 (h1.trans (h1.laidO hp)) ((NT.none hp).back h1.ext) upd_same gp p1 w1.2
/-- freezing: HR may be told with one more address in the frozen part -/
theorem HR.freeze {T : Tb} {H G H' G' : Hp} {p : Addr} {vs : List V} (h : HR T H G H' G') (hp : H' p = some (.lst vs)) (n : NT H p) : HR T H G H' (upd G' p (.lst vs)) ∧ Same G' (upd G' p (.lst vs)) := by
  have sm : Same G' (upd G' p (.lst vs)) := fun b o e => by
    by_cases hb : b = p
    · subst hb; rw [upd_same, ← h.sub b o e, hp]
    · rw [upd_ne hb]; exact e
  refine ⟨⟨fun b o e => ?_, fun b ps e => ?_, h.tabs, h.ext, h.g0.trans sm, fun b e => ?_⟩, sm⟩
  · by_cases hb : b = p
    · subst hb; rw [upd_same] at e; rw [hp]; exact e
    · rw [upd_ne hb] at e; exact h.sub b o e
  · by_cases hb : b = p
    · subst hb; rw [upd_same] at e; cases e
    · rw [upd_ne hb] at e; exact h.nt b ps e
  · by_cases hb : b = p
    · subst hb; exact .inr n
    · rw [upd_ne hb] at e; exact h.new b e
theorem FN.fe {ts : DA} (h : FN X T E e ts) : FE X T E e (dAsL ts) := by
  refine FE.mk' h.pe fun sg H Q ⟨H0, G0, r, G, Qd, Ed, h, er, w, k, x⟩ => ?_
  refine ⟨H0, G0, r, G, _, Ed, h, er, w, fun ds p vs H1 G1 h1 n hp gp p1 w1 => ?_, x⟩
  obtain ⟨z, sm⟩ := h1.freeze hp n
  exact k _ _ _ _ z (.lst (SqL.of upd_same) (p1.up sm)) w1

/-! ### sequences -/
def dSq : PyData → (Bool → List PyData → Prop) → Prop
  | .list ds, Q => Q true ds
  | .tuple ds, Q => Q false ds
  | _, _ => False
@[simp] def dSeq (t : DE) : DQ := fun r Q E => t r (fun d => dSq d Q) E
theorem FE.fq (h : FE X T E e ta) : FQ X T E e (dSeq ta) := by
  refine FQ.mk' h.pe fun sg H Q ⟨H0, G0, r, G, Qd, Ed, h, er, w, k, x⟩ => ?_
  refine ⟨H0, G0, r, G, _, Ed, h, er, w, fun d v H1 G1 h1 p1 w1 => ?_, x⟩
  cases p1 with
  | lst hs ha => exact k true _ _ _ H1 G1 h1 (h1.sub.seq hs) ha w1
  | tup hs ha => exact k false _ _ _ H1 G1 h1 (sqT_mono h1.sub hs) ha w1
  | _ => exact w1.elim
@[simp] def dOwn (i : Nat) : DQ := fun r Q _ => ∃ ds, r[i]? = some (.own ds) ∧ Q true ds
theorem fq_own (i : Nat) {x : Str} (hN : X.N[i]? = some x := by rfl) (hv : Vis X.env.scope x := by first | exact Or.inl rfl | exact Or.inr (Or.inl rfl) | exact Or.inr (Or.inr rfl)) (hd : (x == ("__debug__" : Str)) = false := by decide)
    (hcd : (x == ("__classdict__" : Str)) = false := by decide) : FQ X T E (.Name x pos) (dOwn i) := by
  refine FQ.mk' (pe_var hN hv hd hcd) fun sg H Q ⟨H0, G0, r, G, Qd, Ed, h, er, ⟨ds, hd, q⟩, k, x⟩ => ?_
  obtain ⟨p, vs, a, b, c, n, d⟩ := er.own i ds hd
  exact ⟨.ref p, a, k true ds p vs H G h.refl (SqL.of b) d q⟩

/-! ### calls of defs -/
def spF (K : PySem.W.Frag) (T : Tb) (f : List PyData → M PyData) : Sp := fun vs H Q E => ∃ ds G Qd Ed, HR T H G H G ∧ DpAll K G vs ds ∧ f ds Qd Ed ∧
  (∀ d v H' G', HR T H G H' G' → Dp K G' v d → Qd d → Q v H') ∧ Xc T E H G Ed
@[simp] def dCall (f : List PyData → M PyData) (t : DA) : DE := fun r Q E => t r (fun ds => f ds Q E) E
theorem fe_call {CX : CXT} {k : Nat} {f : Addr} {fd : FuncData} {ps : List Str} {x : Str} {p : Pos} {ff : List PyData → M PyData} {ts : DA} (F : FnOk X.prog X.w X.K X.mg X.base CX k f fd ps (spF X.K T ff)) (hr : Room k X.A) (hg : Gl X x) (hm : X.mg x = some (.ref f)) (hk : PySem.W.keepIn X.K (.ref f) = true)
    (hb : Binds X.K fd ps []) (hx : Passes CX X E) (ha : FA X T E (e :: es) ts) (hdb : (x == ("__debug__" : Str)) = false := by decide) (he : starEach (e :: es) X.env = (false, eval e X.env) :: starEach es X.env := by rfl) (hpl : (backTo pos (starEach es X.env)).any (·.1) = false := by rfl) :
    FE X T E (.Call (.Name x p) (e :: es) [] pos) (dCall ff ts) := by
  refine FE.mk' (pe_call F hr hg hm hk hb .nil hx ha.pa hdb he hpl) fun sg H Q ⟨H0, G0, r, G, Qd, Ed, h, er, w, k, x⟩ => ?_
  refine ⟨H0, G0, r, G, _, Ed, h, er, w, fun ds vs H1 G1 h1 p1 w1 => ?_, x⟩
  exact ⟨ds, G1, Qd, Ed, h1.refl, by rw [List.append_nil]; exact p1, w1, fun d v H' G' z => k d v H' G' (h1.trans z), x.up h1⟩
theorem passAny {E : XK} : Passes CX0 X E := fun _ _ _ _ _ _ _ h => h.elim
/-- a built-in, by data -/
def CallD (K : PySem.W.Frag) (T : Tb) (r : List V → Hp → VK → Prop) (f : List PyData → M PyData) : Prop := ∀ vs ds H G Qd Ed (Q : VK), HR T H G H G → DpAll K G vs ds → f ds Qd Ed → (∀ d v H' G', HR T H G H' G' → Dp K G' v d → Qd d → Q v H') → r vs H Q
theorem fe_callB {id : String} {rr : List V → Hp → VK → Prop} {x : Str} {p : Pos} {ff : List PyData → M PyData} {ts : DA} (hc : CallR X (.builtin id) rr) (hd : CallD X.K T rr ff) (hg : Gl X x) (hm : X.mg x = none) (hv : bootBuiltins x = some (.builtin id)) (ha : FA X T E (e :: es) ts) (hn : x ≠ "__name__" := by decide) (hdb : (x == ("__debug__" : Str)) = false := by decide)
    (he : starEach (e :: es) X.env = (false, eval e X.env) :: starEach es X.env := by rfl) (hpl : (backTo pos (starEach es X.env)).any (·.1) = false := by rfl) : FE X T E (.Call (.Name x p) (e :: es) [] pos) (dCall ff ts) := by
  refine FE.mk' (pe_callB hc hg hm hv ha.pa hn hdb he hpl) fun sg H Q ⟨H0, G0, r, G, Qd, Ed, h, er, w, k, x⟩ => ?_
  refine ⟨H0, G0, r, G, _, Ed, h, er, w, fun ds vs H1 G1 h1 p1 w1 => ?_, x⟩
  exact hd vs ds H1 G1 Qd Ed Q h1.refl p1 w1 fun d v H' G' z => k d v H' G' (h1.trans z)
theorem fe_callTy {id : String} {rr : List V → Hp → VK → Prop} {x : Str} {p : Pos} {ff : List PyData → M PyData} {ts : DA} (hc : CallR X (.type id) rr) (hd : CallD X.K T rr ff) (hg : Gl X x) (hm : X.mg x = none) (hv : bootBuiltins x = some (.type id)) (ha : FA X T E (e :: es) ts) (hn : x ≠ "__name__" := by decide) (hdb : (x == ("__debug__" : Str)) = false := by decide)
    (he : starEach (e :: es) X.env = (false, eval e X.env) :: starEach es X.env := by rfl) (hpl : (backTo pos (starEach es X.env)).any (·.1) = false := by rfl) : FE X T E (.Call (.Name x p) (e :: es) [] pos) (dCall ff ts) := by
  refine FE.mk' (pe_callTy hc hg hm hv ha.pa hn hdb he hpl) fun sg H Q ⟨H0, G0, r, G, Qd, Ed, h, er, w, k, x⟩ => ?_
  refine ⟨H0, G0, r, G, _, Ed, h, er, w, fun ds vs H1 G1 h1 p1 w1 => ?_, x⟩
  exact hd vs ds H1 G1 Qd Ed Q h1.refl p1 w1 fun d v H' G' z => k d v H' G' (h1.trans z)
end

/-! ### statements -/
section
variable {X : Cx} {T : Tb} {E : XK} {e : Expr} {pos : Pos} {st : Stmt} {rest : List Stmt} {t u : DS} {te : DE} {tc : DT}
variable {K : PySem.W.Frag} {H0 G0 G G' H : Hp} {Dd : DEnds} {D : Ends}
theorem EndR.up (h : EndR K T E H0 G0 G Dd D) (s : Same G G') : EndR K T E H0 G0 G' Dd D :=
  ⟨fun r sg H2 G2 a b => h.nx r sg H2 G2 a (s.trans b), fun r sg H2 G2 a b => h.bk r sg H2 G2 a (s.trans b), fun r sg H2 G2 a b => h.ct r sg H2 G2 a (s.trans b), h.rt, h.ex⟩
theorem EndR.xc (h : EndR K T E H0 G0 G Dd D) (hr : HR T H0 G0 H G) : Xc T E H G Dd.ex := fun c H' G' z q => h.ex c H' G' (hr.trans z) q
@[simp] def dNext : DS := fun D r => D.nx r
@[simp] def dThen (t u : DS) : DS := fun D r => t { D with nx := u D } r
theorem fss_nil : FSs X T E [] dNext := FSs.mk' pss_nil fun D sg H ⟨H0, G0, r, G, Dd, h, er, w, k⟩ => k.nx r sg H G h (Same.refl _) er w
theorem fss_one (h1 : FS X T E st t) : FSs X T E [st] t := ⟨pss_one h1.ps⟩
theorem fss_cons (h1 : FS X T E st t) (h2 : FSs X T E rest u) : FSs X T E (st :: rest) (dThen t u) := by
  refine FSs.mk' (pss_cons h1.ps h2.pss) fun D sg H ⟨H0, G0, r, G, Dd, h, er, w, k⟩ => ?_
  exact ⟨H0, G0, r, G, _, h, er, w, fun r' sg' H' G' a b c d => ⟨H0, G0, r', G', Dd, a, c, d, k.up b⟩, k.bk, k.ct, k.rt, k.ex⟩
@[simp] def dBreak : DS := fun D r => D.bk r
@[simp] def dCont : DS := fun D r => D.ct r
theorem fs_pass : FS X T E (.Pass pos) dNext := FS.mk' ps_pass fun D sg H ⟨H0, G0, r, G, Dd, h, er, w, k⟩ => k.nx r sg H G h (Same.refl _) er w
theorem fs_break : FS X T E (.Break pos) dBreak := FS.mk' ps_break fun D sg H ⟨H0, G0, r, G, Dd, h, er, w, k⟩ => k.bk r sg H G h (Same.refl _) er w
theorem fs_continue : FS X T E (.Continue pos) dCont := FS.mk' ps_continue fun D sg H ⟨H0, G0, r, G, Dd, h, er, w, k⟩ => k.ct r sg H G h (Same.refl _) er w
@[simp] def dDrop (t : DE) : DS := fun D r => t r (fun _ => D.nx r) D.ex
theorem fs_expr (he : FE X T E e te) (hs : swapsWith e none pos.line X.env = pure false := by rfl) : FS X T E (.Expr e pos) (dDrop te) := by
  refine FS.mk' (ps_expr he.pe hs) fun D sg H ⟨H0, G0, r, G, Dd, h, er, w, k⟩ => ?_
  exact ⟨H0, G0, r, G, _, _, h, er, w, fun d v H' G' z p q => k.nx r sg H' G' (h.trans z) z.g0 (er.grow z) q, k.xc h⟩
@[simp] def dRet (t : DE) : DS := fun D r => t r D.rt D.ex
theorem fs_ret (he : FE X T E e te) : FS X T E (.Return (some e) pos) (dRet te) := by
  refine FS.mk' (ps_ret he.pe) fun D sg H ⟨H0, G0, r, G, Dd, h, er, w, k⟩ => ?_
  exact ⟨H0, G0, r, G, _, _, h, er, w, fun d v H' G' z p q => k.rt d v H' G' (h.trans z) p q, k.xc h⟩
@[simp] def dIf (c : DT) (t u : DS) : DS := fun D r => c r (fun b => if b = true then t D r else u D r) D.ex
theorem fs_if {c : Expr} {a b : List Stmt} (hc : FT X T E c tc) (ha : FSs X T E a t) (hb : FSs X T E b u) : FS X T E (.If c a b pos) (dIf tc t u) := by
  refine FS.mk' (ps_if hc.pt ha.pss hb.pss) fun D sg H ⟨H0, G0, r, G, Dd, h, er, w, k⟩ => ?_
  refine ⟨H0, G0, r, G, _, _, h, er, w, fun b H' G' z q => ?_, k.xc h⟩
  cases b with
  | true => exact iteT ⟨H0, G0, r, G', Dd, h.trans z, er.grow z, by rw [if_pos rfl] at q; exact q, k.up z.g0⟩
  | false => exact iteF ⟨H0, G0, r, G', Dd, h.trans z, er.grow z, by rw [if_neg Bool.false_ne_true] at q; exact q, k.up z.g0⟩
/-- name = value -/
@[simp] def dSet (i : Nat) (t : DE) : DS := fun D r => t r (fun d => D.nx (r.set i (.dat d))) D.ex
theorem set_of {i : Nat} : ∀ D sg H, lfS X.K T E (dSet i te) D sg H → tAsg (lf X.K T E te) (gName i) D sg H := by
  intro D sg H ⟨H0, G0, r, G, Dd, h, er, w, k⟩
  exact ⟨H0, G0, r, G, _, _, h, er, w, fun d v H' G' z p q => k.nx _ _ H' G' (h.trans z) z.g0 ((er.grow z).set i p) q, k.xc h⟩
theorem fs_set {i : Nat} {x : Str} {pos' : Pos} (hN : X.N.Nodup) (hi : X.N[i]? = some x) (hx : Loc X.env.scope x) (he : FE X T E e te) (hs : swapsWith e (some (.Name x pos')) pos.line X.env = pure false := by rfl) (hf : X.fn x = true ∨ X.env.scope.names.lookup x = some .local := by first | exact .inl rfl | exact .inr rfl | assumption) :
    FS X T E (.Assign [.Name x pos'] e pos) (dSet i te) := FS.mk' (ps_set hN hi hx he.pe hs hf) set_of
/-- name = a new list, one's own -/
@[simp] def dSetO (i : Nat) (t : DA) : DS := fun D r => t r (fun ds => D.nx (r.set i (.own ds))) D.ex
theorem setO_of {ts : DA} {i : Nat} : ∀ D sg H, lfS X.K T E (dSetO i ts) D sg H → tAsg (lfN X.K T E ts) (gName i) D sg H := by
  intro D sg H ⟨H0, G0, r, G, Dd, h, er, w, k⟩
  exact ⟨H0, G0, r, G, _, _, h, er, w, fun ds p vs H' G' z n hp gp a q => k.nx _ _ H' G' (h.trans z) z.g0 (er.setNew z h i (o := .lst ds) n hp gp ⟨vs, rfl, a⟩) q, k.xc h⟩
theorem fs_setO {ts : DA} {i : Nat} {x : Str} {pos' : Pos} (hN : X.N.Nodup) (hi : X.N[i]? = some x) (hx : Loc X.env.scope x) (he : FN X T E e ts) (hs : swapsWith e (some (.Name x pos')) pos.line X.env = pure false := by rfl) (hf : X.fn x = true ∨ X.env.scope.names.lookup x = some .local := by first | exact .inl rfl | exact .inr rfl | assumption) :
    FS X T E (.Assign [.Name x pos'] e pos) (dSetO i ts) := FS.mk' (ps_set hN hi hx he.pe hs hf) setO_of
/-- the list of slot i is frozen ahead of a statement, a block -/
@[simp] def dFrz (i : Nat) (t : DS) : DS := fun D r => ∃ ds, r[i]? = some (.own ds) ∧ t D (r.set i (.dat (.list ds)))
theorem frz_of {i : Nat} : ∀ D sg H, lfS X.K T E (dFrz i t) D sg H → lfS X.K T E t D sg H := by
  intro D sg H ⟨H0, G0, r, G, Dd, h, er, ⟨ds, hr, w⟩, k⟩
  obtain ⟨p, vs, a, b, c, n, d⟩ := er.own i ds hr
  obtain ⟨z, sm⟩ := h.freeze b n
  refine ⟨H0, G0, r.set i (.dat (.list ds)), upd G p (.lst vs), Dd, z, ⟨by simp [er.len], fun j d' q => ?_, fun j es q => ?_, fun j m es fs p' q q' y y' => ?_, fun j f q => ?_⟩, w, k.up sm⟩
  · rcases getSet q with ⟨hj, q2⟩ | ⟨nj, q2⟩
    · cases q2
      rw [hj]
      exact ⟨_, a, .lst (SqL.of upd_same) (d.up sm)⟩
    · obtain ⟨v, e1, e2⟩ := er.dat j d' q2
      exact ⟨v, e1, e2.up sm⟩
  · rcases getSet q with ⟨_, q2⟩ | ⟨nj, q2⟩
    · cases q2
    · obtain ⟨p', vs', a', b', c', n', d''⟩ := er.obj j es q2
      have np : p' ≠ p := fun z => nj (er.inj j i es _ p q2 hr (by rw [← z]; exact a') a)
      exact ⟨p', vs', a', b', by rw [upd_ne np]; exact c', n', d''.up sm⟩
  · rcases getSet q with ⟨_, q⟩ | ⟨nj, q⟩
    · cases q
    · rcases getSet q' with ⟨_, q'⟩ | ⟨nm, q'⟩
      · cases q'
      · exact er.inj j m es fs p' q q' y y'
  · rcases getSet q with ⟨_, q2⟩ | ⟨nj, q2⟩
    · cases q2
    · obtain ⟨v, e1, e2⟩ := er.fct j f q2
      exact ⟨v, e1, e2.up sm⟩
theorem fs_frz (i : Nat) (h : FS X T E st t) : FS X T E st (dFrz i t) := FS.mk' h.ps frz_of
theorem fss_frz (i : Nat) {sts : List Stmt} (h : FSs X T E sts t) : FSs X T E sts (dFrz i t) := FSs.mk' h.pss frz_of
/-- a slot is forgotten -/
def dForget (i : Nat) (t : DS) : DS := fun D r => t D (r.set i .no)

/-! ### while -/
def dWl (c : DT) (b : DS) : Nat → DS
  | 0, _, _ => False
  | n + 1, D, r => c r (fun k => if k = true then b { D with nx := dWl c b n D, ct := dWl c b n D, bk := D.nx } r else D.nx r) D.ex
def dWhile (c : DT) (b : DS) : DS := fun D r => ∃ n, dWl c b n D r
theorem fs_while {c : Expr} {body : List Stmt} {tb : DS} (hp : PassesOwn (model X.prog X.w) X.A X.env X.xe) (hc : FT X T E c tc) (hb : FSs X T E body tb) : FS X T E (.While c body [] pos) (dWhile tc tb) := by
  refine FS.mk' (ps_while hp hc.pt hb.pss) fun D sg H ⟨H0, G0, r, G, Dd, h, er, ⟨n, w⟩, k⟩ => ?_
  refine ⟨fun m sg H => ∃ r G', HR T H0 G0 H G' ∧ Same G G' ∧ ER X.K H0 r sg H G' ∧ dWl tc tb m Dd r, ⟨n, r, G, h, Same.refl _, er, w⟩, ?_⟩
  rintro m sg H ⟨r, G', h, sm, er, w⟩
  cases m with
  | zero => exact w.elim
  | succ m =>
    have kk := k.up sm
    refine ⟨H0, G0, r, G', _, Dd.ex, h, er, w, fun b H1 G1 z q => ?_, kk.xc h⟩
    cases b with
    | true =>
      rw [if_pos rfl] at q ⊢
      refine ⟨fun sg' H' => ∃ r G2, HR T H0 G0 H' G2 ∧ Same G G2 ∧ ER X.K H0 r sg' H' G2 ∧ dWl tc tb m Dd r, fun sg' H' y => ⟨m, Nat.lt_succ_self _, y⟩, ?_⟩
      refine ⟨H0, G0, r, G1, _, h.trans z, er.grow z, q, ⟨fun r' sg' H' G2 a b c d => ⟨r', G2, a, (sm.trans z.g0).trans b, c, d⟩, (kk.up z.g0).nx, fun r' sg' H' G2 a b c d => ⟨r', G2, a, (sm.trans z.g0).trans b, c, d⟩, kk.rt, kk.ex⟩⟩
    | false =>
      rw [if_neg Bool.false_ne_true] at q ⊢
      exact kk.nx r sg H1 G1 (h.trans z) z.g0 (er.grow z) q

/-! ### targets -/
@[simp] def dgName (i : Nat) : DG := fun d r Q => Q (r.set i (.dat d))
theorem fg_name {i : Nat} {x : Str} (hN : X.N.Nodup) (hi : X.N[i]? = some x) (hx : Loc X.env.scope x) (hf : X.fn x = true ∨ X.env.scope.names.lookup x = some .local := by first | exact .inl rfl | exact .inr rfl | assumption) : FG X T [i] (.Name x pos) (dgName i) := by
  refine FG.mk' (pg_name hN hi hx hf) fun v sg H Q ⟨H0, G0, r, G, d, Qd, h, er, p, w, k⟩ => ?_
  refine k _ _ H G h.refl (er.set i p) (by simp) (fun j hj => ?_) w
  rw [List.getElem?_set_ne]
  intro z
  exact hj (by simp [z])
@[simp] def dgNil : DGs := fun ds r Q => ds = [] ∧ Q r
@[simp] def dgCons (g : DG) (gs : DGs) : DGs := fun ds r Q => ∃ d rest, ds = d :: rest ∧ g d r fun r' => gs rest r' Q
@[simp] def dgTup (n : Nat) (gs : DGs) : DG := fun d r Q => ∃ ds, d = .tuple ds ∧ ds.length = n ∧ gs ds r Q
theorem fgs_nil : FGs X T [] [] dgNil := by
  refine FGs.mk' pgs_nil fun v sg H Q ⟨H0, G0, r, G, ds, Qd, h, er, p, ⟨e, w⟩, k⟩ => ?_
  subst e
  cases p
  exact ⟨rfl, k _ _ H G h.refl er rfl (fun _ _ => rfl) w⟩
theorem fgs_cons {is js : List Nat} {es : List Expr} {g : DG} {gs : DGs} (h1 : FG X T is e g) (h2 : FGs X T js es gs) (hs : (assignEach (e :: es) X.env).map (·.2) = assign e X.env :: (assignEach es X.env).map (·.2) := by rfl) : FGs X T (is ++ js) (e :: es) (dgCons g gs) := by
  refine FGs.mk' (pgs_cons h1.pg h2.pgs hs) fun vs sg H Q ⟨H0, G0, r, G, ds, Qd, h, er, p, ⟨d, rest, e, w⟩, k⟩ => ?_
  subst e
  cases p with
  | cons pa pr =>
    refine ⟨_, _, rfl, H0, G0, r, G, d, _, h, er, pa, w, fun r' sg' H' G' z er' l1 s1 w1 => ?_⟩
    refine ⟨H0, G0, r', G', rest, Qd, h.trans z, er', pr.up z.g0, w1, fun r2 sg2 H2 G2 z2 er2 l2 s2 w2 => k r2 sg2 H2 G2 (z.trans z2) er2 (l2.trans l1) (fun j hj => ?_) w2⟩
    rw [s2 j (fun q => hj (List.mem_append_right _ q)), s1 j (fun q => hj (List.mem_append_left _ q))]
theorem fg_tup {is : List Nat} {es : List Expr} {k : Nat} {gs : DGs} {n : Nat} (hc : X.calm = true) (hg : FGs X T is es gs) (hn : (assignEach es X.env).length = n := by rfl) (hst : (assignEach es X.env).findIdx? (·.1) = none := by rfl) : FG X T is (.Tuple es k pos) (dgTup n gs) := by
  refine FG.mk' (pg_tup hc hg.pgs hn hst) fun v sg H Q ⟨H0, G0, r, G, d, Qd, h, er, p, ⟨ds, e, l, w⟩, k⟩ => ?_
  subst e
  cases p with
  | tup hs ha => exact ⟨_, _, rfl, sqT_mono h.sub hs, ha.len.trans l, H0, G0, r, G, ds, Qd, h, er, ha, w, k⟩
/-- target = value -/
@[simp] def dAsg (t : DE) (g : DG) : DS := fun D r => t r (fun d => g d r D.nx) D.ex
theorem fs_asg {is : List Nat} {tg : Expr} {g : DG} (he : FE X T E e te) (hg : FG X T is tg g) (hs : swapsWithSole [tg] e pos.line X.env = pure false := by rfl) (hw : swappedStores [tg] e X.env = pure none := by rfl)
    (h1 : (assignEach [tg] X.env).map (·.2) = [assign tg X.env] := by rfl) : FS X T E (.Assign [tg] e pos) (dAsg te g) := by
  refine FS.mk' (ps_asg he.pe hg.pg hs hw h1) fun D sg H ⟨H0, G0, r, G, Dd, h, er, w, k⟩ => ?_
  refine ⟨H0, G0, r, G, _, _, h, er, w, fun d v H' G' z p q => ?_, k.xc h⟩
  exact ⟨H0, G0, r, G', d, _, h.trans z, er.grow z, p, q, fun r' sg' H2 G2 z2 er2 _ _ w2 => k.nx r' sg' H2 G2 ((h.trans z).trans z2) (z.g0.trans z2.g0) er2 w2⟩

/-! ### for -/
def dFo (g : DG) (b : DS) : List PyData → DS
  | [], D, r => D.nx r
  | d :: ds, D, r => g d r fun r' => b { D with nx := dFo g b ds D, ct := dFo g b ds D, bk := D.nx } r'
@[simp] def dFor (ti : DA) (g : DG) (b : DS) : DS := fun D r => ti r (fun ds => dFo g b ds D r) D.ex
theorem drop_at {A : Type} {l : List A} {i : Nat} {x : A} (h : l[i]? = some x) : l.drop i = x :: l.drop (i + 1) := by
  obtain ⟨hl, e⟩ := List.getElem?_eq_some_iff.mp h
  rw [List.drop_eq_getElem_cons hl, e]
theorem fs_for {is : List Nat} {tg iter : Expr} {body : List Stmt} {ti : DA} {g : DG} {tb : DS} (hp : PassesOwn (model X.prog X.w) X.A X.env X.xe) (hc : X.calm = true) (hi : FI X T E true tg iter ti) (hg : FG X T is tg g) (hb : FSs X T E body tb)
    (hs : ∀ x, foldedSetIterable iter X.env x = pure x := by intro _; rfl) : FS X T E (.For tg iter body [] pos) (dFor ti g tb) := by
  refine FS.mk' (ps_for hp hc hi.pi hg.pg hb.pss hs) fun D sg H ⟨H0, G0, r, G, Dd, h, er, w, k⟩ => ?_
  refine ⟨H0, G0, r, G, _, _, h, er, w, fun ds J P H1 G1 z wk _ pf q => ?_, k.xc h⟩
  have kk := k.up z.g0
  have wl : Walk J ds.length P (fun i H x H' => J.yld i H x H') := ⟨wk.goes, wk.stops, fun _ _ _ _ _ _ y => y⟩
  refine for_it wl (fun i sg H => ∃ r G', HR T H0 G0 H G' ∧ Same G1 G' ∧ ER X.K H0 r sg H G' ∧ dFo g tb (ds.drop i) Dd r) ⟨r, G1, h.trans z, Same.refl _, er.grow z, q⟩ (fun i sg H hi ⟨r, G', a, b, c, d⟩ => pf rfl H (b.trans a.sub)) (fun i x sg H H' hi ⟨r, G', a, b, c, d⟩ y => ?_) fun sg H ⟨r, G', a, b, c, d⟩ => ?_
  · obtain ⟨G2, dd, e1, e2, e3⟩ := wk.yields i H G' x H' hi (pf rfl H (b.trans a.sub)) a.refl b y
    rw [drop_at e1] at d
    refine ⟨H0, G0, r, G2, dd, _, a.trans e2, c.grow e2, e3, d, fun r' sg' H3 G3 z3 er3 _ _ w3 => ?_⟩
    have s13 : Same G1 G3 := (b.trans e2.g0).trans z3.g0
    exact ⟨H0, G0, r', G3, _, (a.trans e2).trans z3, er3, w3, ⟨fun r4 sg4 H4 G4 a4 b4 c4 d4 => ⟨r4, G4, a4, s13.trans b4, c4, d4⟩, (kk.up s13).nx, fun r4 sg4 H4 G4 a4 b4 c4 d4 => ⟨r4, G4, a4, s13.trans b4, c4, d4⟩, k.rt, k.ex⟩⟩
  · rw [List.drop_length] at d
    exact kk.nx r sg H G' a b c d
end

/-! ### what is walked -/
section
variable {X : Cx} {T : Tb} {E : XK} {e tg : Expr} {pos : Pos} {te : DE}
theorem FI.any {ti : DA} (h : FI X T E true tg e ti) : FI X T E false tg e ti := by
  refine FI.mk' h.pi fun sg H R ⟨H0, G0, r, G, Qd, Ed, h, er, w, k, x⟩ => ?_
  exact ⟨H0, G0, r, G, Qd, Ed, h, er, w, fun ds J P H' G' z wk pe _ q => k ds J P H' G' z wk pe (fun c => by cases c) q, x⟩
theorem ext_of_same {H H2 G : Hp} (s : Same G H) (n : NoT G) (e : ExtN H H2) : Same G H2 := fun a o q => e a o (s a o q) fun ps z => n a ps (by rw [q, z])
theorem walkD_seq {K : PySem.W.Frag} {T : Tb} {a : Addr} {vs : List V} {ds : List PyData} {G1 : Hp} (ha : DpAll K G1 vs ds) : WalkD K T (Itl K a) ds G1 (fun H => SqL K H a vs) := by
  have hl := ha.len
  refine ⟨fun i H hi q => ⟨vs, vs[i]'(by omega), q, by simp [show i < vs.length by omega]⟩, fun H q => ⟨vs, q, by omega⟩, fun i H G x H' hi q hr sm y => ?_⟩
  obtain ⟨e1, e2⟩ := y
  subst e1
  obtain ⟨d, h1, h2⟩ := ha.at (e2 vs q)
  exact ⟨G, d, h1, hr, h2.up sm⟩
theorem walkD_tup {K : PySem.W.Frag} {T : Tb} {a : Addr} {vs : List V} {ds : List PyData} {G1 : Hp} (ha : DpAll K G1 vs ds) : WalkD K T (Itt K a) ds G1 (fun H => SqT K H a vs) := by
  have hl := ha.len
  refine ⟨fun i H hi q => ⟨vs, vs[i]'(by omega), q, by simp [show i < vs.length by omega]⟩, fun H q => ⟨vs, q, by omega⟩, fun i H G x H' hi q hr sm y => ?_⟩
  obtain ⟨e1, e2⟩ := y
  subst e1
  obtain ⟨d, h1, h2⟩ := ha.at (e2 vs q)
  exact ⟨G, d, h1, hr, h2.up sm⟩
/-- a list, a tuple, a text that is walked -/
def iAny (K : PySem.W.Frag) (tl : TE) : TI := fun sg H R => tl sg H fun x H1 => (∃ a, x = .ref a ∧ (∃ xs, SqL K H1 a xs) ∧ R (Itl K a) H1) ∨ (∃ a, x = .ref a ∧ (∃ xs, SqT K H1 a xs) ∧ R (Itt K a) H1) ∨ ∃ z, x = .str z ∧ R (Its z) H1
theorem pi_any {l : Expr} {tl : TE} (hl : PE X l tl) : PI X tg l (iAny X.K tl) := by
  refine ⟨fun pins s sg H R I h => ?_⟩
  refine thn (hl.run pins s sg H _ I h) fun v s1 ⟨x, H1, I1, r1, q1⟩ => ?_
  rcases q1 with ⟨a, e, ⟨xs, hq⟩, q⟩ | ⟨a, e, ⟨xs, hq⟩, q⟩ | ⟨z, e, q⟩
  · subst e
    cases r1
    obtain ⟨its, rv, p, hz⟩ := I1.list hq
    refine wpAny_pyIter_list p.isList ?_
    refine ⟨s1.heap.objs.size, [s1.heap.objs.size], _, _, H1, rfl, I1.kept (t' := s1.toks) fun b o e => Heap.get?_push_of_some _ e, turn_list a _, ⟨_, Heap.get?_push_size _ rfl, rfl, rfl⟩, fun b hb => ?_, q⟩
    have e : b = s1.heap.objs.size := by simpa using hb
    subst e
    exact I1.fpOk (Nat.le_refl _) (I1.hok.fresh (Nat.le_refl _))
  · subst e
    cases r1
    obtain ⟨its, rv, p, hz⟩ := I1.tuple hq
    refine wpAny_pyIter_tuple (show s1.heap.IsTuple a its.toArray from p) ?_
    refine ⟨s1.heap.objs.size, [s1.heap.objs.size], _, _, H1, rfl, I1.kept (t' := s1.toks) fun b o e => Heap.get?_push_of_some _ e, turn_tuple a _, ⟨_, Heap.get?_push_size _ rfl, rfl, rfl⟩, fun b hb => ?_, q⟩
    have e : b = s1.heap.objs.size := by simpa using hb
    subst e
    exact I1.fpOk (Nat.le_refl _) (I1.hok.fresh (Nat.le_refl _))
  · subst e
    obtain ⟨t, rfl⟩ := r1
    cases ha : z.cps.all (· < 128)
    · exact wpAny_pyIter_wide ha (pi_one (tk := s1.toks) I1 _ (turn_str _ z t "str_iterator" (.inr rfl)) ⟨_, Heap.get?_push_size _ rfl, rfl, rfl⟩ q)
    · exact wpAny_pyIter_ascii ha (pi_one (tk := s1.toks) I1 _ (turn_str _ z t "str_ascii_iterator" (.inl rfl)) ⟨_, Heap.get?_push_size _ rfl, rfl, rfl⟩ q)
/-- the signs of a text -/
def signs (z : Str) : List PyData := z.cps.toList.map fun c => .str ⟨#[c]⟩
theorem walkD_str {K : PySem.W.Frag} {T : Tb} {z : Str} {G1 : Hp} : WalkD K T (Its z) (signs z) G1 (fun _ => True) := by
  have hl : (signs z).length = z.cps.size := by simp [signs]
  refine ⟨fun i H hi q => by rw [hl] at hi; exact hi, fun H q => by rw [hl]; exact Nat.le_refl _, fun i H G x H' hi q hr sm y => ?_⟩
  obtain ⟨e1, c, e2, e3⟩ := y
  subst e1 e3
  refine ⟨G, _, ?_, hr, .str _⟩
  have e4 : z.cps.toList[i]? = some c := by simpa using e2
  simp [signs, e4]
def dItems : PyData → (List PyData → Prop) → Prop
  | .list ds, Q => Q ds
  | .tuple ds, Q => Q ds
  | .str z, Q => Q (signs z)
  | _, _ => False
@[simp] def dIt (t : DE) : DA := fun r Q E => t r (fun d => dItems d Q) E
theorem fi_of (h : FE X T E e te) : FI X T E true tg e (dIt te) := by
  refine FI.mk' (pi_any h.pe) fun sg H R ⟨H0, G0, r, G, Qd, Ed, h, er, w, k, x⟩ => ?_
  refine ⟨H0, G0, r, G, _, Ed, h, er, w, fun d v H' G' z p q => ?_, x⟩
  cases p with
  | lst hs ha => exact .inl ⟨_, rfl, ⟨_, z.sub.seq hs⟩, k _ _ _ H' G' z (walkD_seq ha) (fun H2 e => (ext_of_same z.sub z.nt e).seq hs) (fun _ H2 s => s.seq hs) q⟩
  | tup hs ha => exact .inr (.inl ⟨_, rfl, ⟨_, sqT_mono z.sub hs⟩, k _ _ _ H' G' z (walkD_tup ha) (fun H2 e => sqT_mono (ext_of_same z.sub z.nt e) hs) (fun _ H2 s => sqT_mono s hs) q⟩)
  | str y => exact .inr (.inr ⟨y, rfl, k _ _ _ H' G' z walkD_str (fun H2 e => trivial) (fun _ H2 s => trivial) q⟩)
  | _ => exact q.elim
/-- a list of one's own that is walked by a comprehension -/
@[simp] def dOwnI (i : Nat) : DA := fun r Q _ => ∃ ds, r[i]? = some (.own ds) ∧ Q ds
theorem fi_own (i : Nat) {x : Str} (hN : X.N[i]? = some x := by rfl) (hv : Vis X.env.scope x := by first | exact Or.inl rfl | exact Or.inr (Or.inl rfl) | exact Or.inr (Or.inr rfl)) (hd : (x == ("__debug__" : Str)) = false := by decide)
    (hcd : (x == ("__classdict__" : Str)) = false := by decide) : FI X T E false tg (.Name x pos) (dOwnI i) := by
  refine FI.mk' (pi_list (pe_var hN hv hd hcd)) fun sg H R ⟨H0, G0, r, G, Qd, Ed, h, er, ⟨ds, hd, q⟩, k, x⟩ => ?_
  obtain ⟨p, vs, a, b, c, n, d⟩ := er.own i ds hd
  exact ⟨.ref p, a, p, rfl, ⟨vs, SqL.of b⟩, k ds _ _ H G h.refl (walkD_seq d) (fun H2 e => SqL.of (e p _ b fun ps z => by cases z)) (fun z => by cases z) q⟩
/-- ranges -/
def rngD (lo : Int) (n : Nat) : List PyData := (List.range n).map fun k => .int (lo + (k : Nat))
theorem rngD_length (lo : Int) (n : Nat) : (rngD lo n).length = n := by simp [rngD]
theorem walkD_range {K : PySem.W.Frag} {T : Tb} {lo : Int} {n : Nat} {G1 : Hp} : WalkD K T (Itr lo n) (rngD lo n) G1 (fun _ => True) := by
  refine ⟨fun i H hi q => by rw [rngD_length] at hi; exact hi, fun H q => by rw [rngD_length]; exact Nat.le_refl _, fun i H G x H' hi q hr sm y => ?_⟩
  obtain ⟨e1, e2⟩ := y
  subst e1 e2
  rw [rngD_length] at hi
  exact ⟨G, .int (lo + i), by simp [rngD, hi], hr, .int _⟩
def b62 (j : Int) : Prop := -(2 ^ 62) ≤ j ∧ j < 2 ^ 62
@[simp] def dRng1 (t : DA) : DA := fun r Q E => t r (fun ds => ∃ j, ds = [.int j] ∧ b62 j ∧ Q (rngD 0 j.toNat)) E
@[simp] def dRng2 (t : DA) : DA := fun r Q E => t r (fun ds => ∃ i j, ds = [.int i, .int j] ∧ b62 i ∧ b62 j ∧ Q (rngD i (j - i).toNat)) E
theorem fi_range1 {a : Expr} {ta : DA} {p : Pos} (hg : Gl X "range") (hm : X.mg "range" = none) (ha : FA X T E [a] ta) (hs : starEach [a] X.env = [(false, eval a X.env)] := by rfl) : FI X T E true tg (.Call (.Name "range" p) [a] [] pos) (dRng1 ta) := by
  refine FI.mk' (pi_range1 hg hm ha.pa hs) fun sg H R ⟨H0, G0, r, G, Qd, Ed, h, er, w, k, x⟩ => ?_
  refine ⟨H0, G0, r, G, _, Ed, h, er, w, fun ds vs H' G' z p ⟨j, e, b, q⟩ => ?_, x⟩
  subst e
  have ev := DpAll.ofInts (ns := [j]) p
  subst ev
  exact ⟨j, rfl, b.1, b.2, k _ _ _ H' G' z walkD_range (fun _ _ => trivial) (fun _ _ _ => trivial) q⟩
theorem fi_range2 {a b : Expr} {ta : DA} {p : Pos} (hg : Gl X "range") (hm : X.mg "range" = none) (ha : FA X T E [a, b] ta) (hs : starEach [a, b] X.env = [(false, eval a X.env), (false, eval b X.env)] := by rfl) (hs2 : starEach [b] X.env = [(false, eval b X.env)] := by rfl) : FI X T E true tg (.Call (.Name "range" p) [a, b] [] pos) (dRng2 ta) := by
  refine FI.mk' (pi_range2 hg hm ha.pa hs hs2) fun sg H R ⟨H0, G0, r, G, Qd, Ed, h, er, w, k, x⟩ => ?_
  refine ⟨H0, G0, r, G, _, Ed, h, er, w, fun ds vs H' G' z p ⟨i, j, e, b, c, q⟩ => ?_, x⟩
  subst e
  have ev := DpAll.ofInts (ns := [i, j]) p
  subst ev
  exact ⟨i, j, rfl, ⟨b.1, b.2, c.1, c.2⟩, k _ _ _ H' G' z walkD_range (fun _ _ => trivial) (fun _ _ _ => trivial) q⟩
end

/-! ### changes to lists of one's own -/
theorem tabs_pokeX {T : Tb} {H : Hp} {p : Addr} {u u' : HO} (t : Tabs T H) (hp : H p = some u) (hu : ∀ ps, u ≠ .tbl ps) (hc : ∀ c q, c = p → u ≠ CodeO c q) : Tabs T (upd H p u') := by
  intro q hq
  obtain ⟨ps, h1, h2, h3⟩ := t q hq
  refine ⟨ps, ?_, h2, fun pos cv hcv => ?_⟩
  · rw [upd_ne]
    · exact h1
    · intro z
      rw [z, hp] at h1
      exact hu ps (Option.some.inj h1)
  · obtain ⟨c, e1, e2⟩ := h3 pos cv hcv
    refine ⟨c, e1, ?_⟩
    rw [upd_ne]
    · exact e2
    · intro z
      rw [z, hp] at e2
      exact hc _ _ rfl (Option.some.inj e2)
theorem HR.pokeX {T : Tb} {H G H' G' : Hp} {p : Addr} {u u' : HO} (h : HR T H G H' G') (n : NT H p) (hp : H' p = some u) (hu : ∀ ps, u ≠ .tbl ps) (hc : ∀ c q, c = p → u ≠ CodeO c q) (gp : G' p = none) : HR T H G (upd H' p u') G' :=
  ⟨fun b o e => by rw [upd_ne (ne_of_none e gp)]; exact h.sub b o e, h.nt, tabs_pokeX h.tabs hp hu hc, fun b o e z => by
    have hb : b ≠ p := fun q => by
      subst q
      obtain ⟨ps, q⟩ := n o e
      exact z ps q
    rw [upd_ne hb]
    exact h.ext b o e z, h.g0, h.new⟩
theorem HR.poke {T : Tb} {H G H' G' : Hp} {p : Addr} {vs ws : List V} (h : HR T H G H' G') (n : NT H p) (hp : H' p = some (.lst vs)) (gp : G' p = none) : HR T H G (upd H' p (.lst ws)) G' :=
  h.pokeX n hp (fun ps q => by cases q) (fun c q _ z => by cases z) gp
theorem ER.poke {K : PySem.W.Frag} {H0 H G : Hp} {r : Ev} {sg : L2.St} {p : Addr} {u : HO} (e : ER K H0 r sg H G) (np : ∀ (j : Nat) es, r[j]? = some (.obj es) → sg[j]? ≠ some (some (.ref p))) : ER K H0 r sg (upd H p u) G :=
  ⟨e.len, e.dat, fun i ds z => by
    obtain ⟨q, vs, a, b, c, n, d⟩ := e.obj i ds z
    exact ⟨q, vs, a, by rw [upd_ne (fun y => np i ds z (by rw [← y]; exact a))]; exact b, c, n, d⟩, e.inj, e.fct⟩
/-- the thing of slot i is changed -/
theorem ER.pokeX {K : PySem.W.Frag} {H0 H G : Hp} {r : Ev} {sg : L2.St} {i : Nat} {p : Addr} {o o' : OD} {u : HO} (e : ER K H0 r sg H G) (hi : r[i]? = some (.obj o)) (hs : sg[i]? = some (some (.ref p))) (gp : G p = none) (n : NT H0 p) (a : OR K G p u o') :
    ER K H0 (r.set i (.obj o')) sg (upd H p u) G := by
  refine ⟨by simp [e.len], fun j d' z => ?_, fun j fs z => ?_, fun j k fs gs q z z' y y' => ?_, fun j f z => ?_⟩
  · rcases getSet z with ⟨_, q⟩ | ⟨n, q⟩
    · cases q
    · exact e.dat j d' q
  · rcases getSet z with ⟨hj, q⟩ | ⟨nj, q⟩
    · cases q
      rw [hj]
      exact ⟨p, u, hs, upd_same, gp, n, a⟩
    · obtain ⟨p', vs, a', b, c, n', d⟩ := e.obj j fs q
      have np : p' ≠ p := fun y => nj (e.inj j i fs o p q hi (by rw [← y]; exact a') hs)
      exact ⟨p', vs, a', by rw [upd_ne np]; exact b, c, n', d⟩
  · have own : ∀ (v : Nat) (cs : OD), (r.set i (.obj o'))[v]? = some (.obj cs) → ∃ cs', r[v]? = some (.obj cs') := fun v cs z => by
      rcases getSet z with ⟨hu, _⟩ | ⟨_, q⟩
      · exact ⟨o, by rw [hu]; exact hi⟩
      · exact ⟨cs, q⟩
    obtain ⟨c1, e1⟩ := own j fs z
    obtain ⟨c2, e2⟩ := own k gs z'
    exact e.inj j k c1 c2 q e1 e2 y y'
  · rcases getSet z with ⟨_, q⟩ | ⟨n, q⟩
    · cases q
    · exact e.fct j f q
theorem ER.pokeO {K : PySem.W.Frag} {H0 H G : Hp} {r : Ev} {sg : L2.St} {i : Nat} {p : Addr} {ds es : List PyData} {ws : List V} (e : ER K H0 r sg H G) (hi : r[i]? = some (.own ds)) (hs : sg[i]? = some (some (.ref p))) (gp : G p = none) (n : NT H0 p) (a : DpAll K G ws es) :
    ER K H0 (r.set i (.own es)) sg (upd H p (.lst ws)) G := e.pokeX hi hs gp n ⟨ws, rfl, a⟩

/-! ### list comprehensions -/
def wipeD (r : Ev) : List Nat → Ev
  | [] => r
  | v :: vs => (wipeD r vs).set v .no
theorem ER.wipe {K : PySem.W.Frag} {H0 H G : Hp} {r : Ev} {sg : L2.St} (e : ER K H0 r sg H G) : ∀ vs : List Nat, ER K H0 (wipeD r vs) (L2.wipe sg vs) H G
  | [] => e
  | v :: vs => (ER.wipe e vs).drop v none
theorem wipe_at (sg : L2.St) : ∀ (vs : List Nat) (j : Nat), j < sg.length → j ∈ vs → (L2.wipe sg vs)[j]? = some none
  | [], j, _, h => by cases h
  | v :: vs, j, hl, h => by
    unfold L2.wipe
    by_cases e : v = j
    · subst e
      rw [List.getElem?_set_self (by rw [wipe_length]; exact hl)]
    · rw [List.getElem?_set_ne e]
      rcases List.mem_cons.mp h with z | z
      · exact absurd z.symm e
      · exact wipe_at sg vs j hl z
theorem wipe_out (sg : L2.St) : ∀ (vs : List Nat) (j : Nat), j ∉ vs → (L2.wipe sg vs)[j]? = sg[j]?
  | [], j, _ => rfl
  | v :: vs, j, h => by
    unfold L2.wipe
    rw [List.getElem?_set_ne (fun z => h (by simp [z])), wipe_out sg vs j (fun z => h (List.mem_cons_of_mem _ z))]
theorem wipe_same {sg sg2 : L2.St} {vs : List Nat} (hl : sg2.length = (L2.wipe sg vs).length) (h : ∀ j, j ∉ vs → sg2[j]? = (L2.wipe sg vs)[j]?) : L2.wipe sg2 vs = L2.wipe sg vs := by
  rw [wipe_length] at hl
  apply List.ext_getElem?
  intro j
  by_cases hj : j ∈ vs
  · by_cases hlt : j < sg.length
    · rw [wipe_at sg2 vs j (by omega) hj, wipe_at sg vs j hlt hj]
    · rw [List.getElem?_eq_none (by rw [wipe_length]; omega), List.getElem?_eq_none (by rw [wipe_length]; omega)]
  · rw [wipe_out sg2 vs j hj, h j hj]
def dLcGo (g : DG) (tt : DT) (te : DE) (r : Ev) (Q : List PyData → Prop) : List PyData → List PyData → Prop
  | [], acc => Q acc
  | d :: ds, acc => g d r fun r2 => tt r2 (fun b => if b = true then te r2 (fun y => dLcGo g tt te r Q ds (acc ++ [y])) (fun _ => False) else dLcGo g tt te r Q ds acc) (fun _ => False)
@[simp] def dLc (ti : DA) (g : DG) (tt : DT) (te : DE) (vs : List Nat) : DA := fun r Q E => ti r (fun ds => ds.length ≤ sizeLine ∧ dLcGo g tt te (wipeD r vs) Q ds []) E
@[simp] def dYes : DT := fun _ Q _ => Q true
section
variable {X : Cx} {T : Tb} {E : XK} {e : Expr} {pos : Pos}
theorem fts_nil : FTs X T E [] dYes := FTs.mk' pts_nil fun sg H Q ⟨H0, G0, r, G, Qd, Ed, h, er, w, k, x⟩ => k true H G h.refl w
theorem fts_one {c : Expr} {t : DT} (h : FT X T E c t) : FTs X T E [c] t := ⟨pts_one h.pt⟩
theorem lc_of {K : PySem.W.Frag} {is vs : List Nat} {ti : DA} {g : DG} {tt : DT} {te : DE} (hv : ∀ i ∈ is, i ∈ vs) : ∀ sg H Q, lfN K T E (dLc ti g tt te vs) sg H Q → tLc (lfI K T E false ti) (lfG K T is g) (lfT K T E tt) (lf K T E te) vs sg H Q := by
  intro sg H Q ⟨H0, G0, r, G, Qd, Ed, h, er, w, k, x⟩
  refine ⟨H0, G0, r, G, _, Ed, h, er, w, fun ds J P H1 G1 z wk pe _ ⟨hz, q⟩ D hD => ?_, x⟩
  have nD : NT H D := (NT.none hD).back z.ext
  have gD : G1 D = none := by
    cases qq : G1 D with
    | none => rfl
    | some u => rw [z.sub D u qq] at hD; cases hD
  have hOwn : ∀ (j : Nat) es, (wipeD r vs)[j]? = some (.obj es) → (L2.wipe sg vs)[j]? ≠ some (some (.ref D)) := fun j es a b => by
    obtain ⟨p, us, a1, a2, _, _, a3⟩ := (er.wipe vs).obj j es a
    rw [b] at a1
    cases a1
    obtain ⟨ps, q⟩ := nD _ a2
    exact a3.notTbl ps q
  have wl : Walk J ds.length P (fun i H x H' => J.yld i H x H') := ⟨wk.goes, wk.stops, fun _ _ _ _ _ _ y => y⟩
  have ex0 : Same H1 (upd H1 D (.lst [])) := fun b u q => by rw [upd_ne (ne_of_none q hD)]; exact q
  have z0 : HR T H1 G1 (upd H1 D (.lst [])) G1 := z.laidO hD
  refine lc_it wl (fun i Hc => ∃ Gc acc ys, HR T H G Hc Gc ∧ ExtN H1 Hc ∧ Same G1 Gc ∧ ER K H0 (wipeD r vs) (L2.wipe sg vs) Hc Gc ∧ Hc D = some (.lst acc) ∧ Gc D = none ∧ DpAll K Gc acc ys ∧ acc.length ≤ i ∧ dLcGo g tt te (wipeD r vs) Qd (ds.drop i) ys)
    ⟨G1, [], [], z.trans z0, ExtN.of ex0, Same.refl _, ((er.grow z).grow z0).wipe vs, upd_same, gD, .nil, Nat.le_refl _, q⟩ (fun i Hc _ ⟨_, _, _, _, a, _⟩ => pe Hc a) (fun i v Hc H' hi ⟨Gc, acc, ys, a1, a2, a3, a4, a5, a6, a7, a8, a9⟩ y => ?_) fun Hc ⟨Gc, acc, ys, a1, a2, a3, a4, a5, a6, a7, a8, a9⟩ => ?_
  · obtain ⟨G2, dd, e1, e2, e3⟩ := wk.yields i Hc Gc v H' hi (pe Hc a2) a1.refl a3 y
    rw [drop_at e1] at a9
    refine ⟨H0, G0, wipeD r vs, G2, dd, _, h.trans (a1.trans e2), a4.grow e2, e3, a9, fun r2 sg2 H2 G3 z2 er2 l2 s2 w2 => ⟨wipe_same l2 fun j hj => s2 j fun q => hj (hv j q), ?_⟩⟩
    have b1 := (a1.trans e2).trans z2
    refine ⟨H0, G0, r2, G3, _, _, h.trans b1, er2, w2, fun b H3 G4 z3 w3 => ?_, fun _ _ _ _ q => q.elim⟩
    have c1 := b1.trans z3
    have ec : HR T Hc Gc H3 G4 := (e2.trans z2).trans z3
    have D3 : H3 D = some (.lst acc) := ec.ext D _ a5 fun ps q => by cases q
    have G4D : G4 D = none := ec.noNew a5 a6
    cases b with
    | true =>
      rw [if_pos rfl] at w3
      refine iteT ?_
      refine ⟨H0, G0, r2, G4, _, _, h.trans c1, er2.grow z3, w3, fun dy vy H4 G5 z4 py wy => ?_, fun _ _ _ _ q => q.elim⟩
      have ec4 := ec.trans z4
      have D4 : H4 D = some (.lst acc) := ec4.ext D _ a5 fun ps q => by cases q
      have G5D : G5 D = none := ec4.noNew a5 a6
      refine ⟨acc, D4, by omega, G5, acc ++ [vy], ys ++ [dy], (a1.trans ec4).poke nD D4 G5D, fun b o e1 e2 => ?_, a3.trans ec4.g0, (a4.grow ec4).poke hOwn, upd_same, G5D, (a7.up ec4.g0).app (.cons py .nil), by simp; omega, wy⟩
      rw [upd_ne (fun zz => by subst zz; rw [hD] at e1; cases e1)]
      exact (a2.trans ec4.ext) b o e1 e2
    | false =>
      rw [if_neg Bool.false_ne_true] at w3
      refine iteF ?_
      exact ⟨G4, acc, ys, a1.trans ec, a2.trans ec.ext, a3.trans ec.g0, a4.grow ec, D3, G4D, a7.up ec.g0, by omega, w3⟩
  · rw [List.drop_length] at a9
    exact k ys D acc Hc Gc a1 nD a5 a6 a7 a9
theorem asl_of {K : PySem.W.Frag} {ts : DA} {sg : L2.St} {H : Hp} {Q : VK} (q : lf K T E (dAsL ts) sg H Q) : lfN K T E ts sg H Q := by
  obtain ⟨H0, G0, r, G, Qd, Ed, h, er, w, k, x⟩ := q
  refine ⟨H0, G0, r, G, _, Ed, h, er, w, fun ds p vs H1 G1 h1 n hp gp p1 w1 => ?_, x⟩
  obtain ⟨z, sm⟩ := h1.freeze hp n
  exact k _ _ _ _ z (.lst (SqL.of upd_same) (p1.up sm)) w1
variable {elt tg iter : Expr} {ifs : List Expr} {scope : Scope} {own : List (Str × Nat)} {ti : DA} {g : DG} {tt : DT} {te : DE} {is : List Nat}
theorem fn_lc (hc : X.calm = true) (hN : X.N.Nodup) (hi : FI X T E false tg iter ti) (ok : BlkOk X.N X.env.scope scope own)
    (hg : ∀ (s : Shared) (H : Hp) (C : Addr) (cl : List (Str × Addr)) (fp : List Addr), FG (X.blk s H scope (compEnvC scope cl C X.env) fp) T is tg g) (ht : ∀ (s : Shared) (H : Hp) (C : Addr) (cl : List (Str × Addr)) (fp : List Addr), FTs (X.blk s H scope (compEnvC scope cl C X.env) fp) T E ifs tt)
    (he : ∀ (s : Shared) (H : Hp) (C : Addr) (cl : List (Str × Addr)) (fp : List Addr), FE (X.blk s H scope (compEnvC scope cl C X.env) fp) T E elt te) (hv : ∀ i ∈ is, i ∈ own.map (·.2) := by decide) (hs : ∀ x, foldedSetIterable iter X.env x = pure x := by intro _; rfl) :
    FN X T E (.ListComp elt [⟨tg, iter, ifs, 0⟩] scope pos) (dLc ti g tt te (own.map (·.2))) :=
  FN.mk' (pe_lc hc hN hi.pi ok (fun s H C cl fp => (hg s H C cl fp).pg) (fun s H C cl fp => (ht s H C cl fp).pts) (fun s H C cl fp => (he s H C cl fp).pe) hs) (lc_of hv)
theorem fs_setLcO {i : Nat} {y : Str} {py spos : Pos} (hc : X.calm = true) (hN : X.N.Nodup) (hy : X.N[i]? = some y) (hyl : X.env.scope.names.lookup y = some .local)
    (hsw : swapsWith (.ListComp elt [⟨tg, iter, ifs, 0⟩] scope pos) (some (.Name y py)) spos.line X.env = pure true) (hi : FI X T E false tg iter ti) (ok : BlkOk X.N X.env.scope scope own)
    (hg : ∀ (s : Shared) (H : Hp) (C : Addr) (cl : List (Str × Addr)) (fp : List Addr), FG (X.blk s H scope (compEnvC scope cl C X.env) fp) T is tg g) (ht : ∀ (s : Shared) (H : Hp) (C : Addr) (cl : List (Str × Addr)) (fp : List Addr), FTs (X.blk s H scope (compEnvC scope cl C X.env) fp) T E ifs tt)
    (he : ∀ (s : Shared) (H : Hp) (C : Addr) (cl : List (Str × Addr)) (fp : List Addr), FE (X.blk s H scope (compEnvC scope cl C X.env) fp) T E elt te) (hv : ∀ i ∈ is, i ∈ own.map (·.2) := by decide) (hs : ∀ x, foldedSetIterable iter X.env x = pure x := by intro _; rfl) :
    FS X T E (.Assign [.Name y py] (.ListComp elt [⟨tg, iter, ifs, 0⟩] scope pos) spos) (dSetO i (dLc ti g tt te (own.map (·.2)))) :=
  FS.mk' (ps_setLc hc hN hy hyl hsw hi.pi ok (fun s H C cl fp => (hg s H C cl fp).pg) (fun s H C cl fp => (ht s H C cl fp).pts) (fun s H C cl fp => (he s H C cl fp).pe) hs) fun D sg H q => lc_of hv _ _ _ (setO_of _ _ _ q)
theorem fs_setLc {i : Nat} {y : Str} {py spos : Pos} (hc : X.calm = true) (hN : X.N.Nodup) (hy : X.N[i]? = some y) (hyl : X.env.scope.names.lookup y = some .local)
    (hsw : swapsWith (.ListComp elt [⟨tg, iter, ifs, 0⟩] scope pos) (some (.Name y py)) spos.line X.env = pure true) (hi : FI X T E false tg iter ti) (ok : BlkOk X.N X.env.scope scope own)
    (hg : ∀ (s : Shared) (H : Hp) (C : Addr) (cl : List (Str × Addr)) (fp : List Addr), FG (X.blk s H scope (compEnvC scope cl C X.env) fp) T is tg g) (ht : ∀ (s : Shared) (H : Hp) (C : Addr) (cl : List (Str × Addr)) (fp : List Addr), FTs (X.blk s H scope (compEnvC scope cl C X.env) fp) T E ifs tt)
    (he : ∀ (s : Shared) (H : Hp) (C : Addr) (cl : List (Str × Addr)) (fp : List Addr), FE (X.blk s H scope (compEnvC scope cl C X.env) fp) T E elt te) (hv : ∀ i ∈ is, i ∈ own.map (·.2) := by decide) (hs : ∀ x, foldedSetIterable iter X.env x = pure x := by intro _; rfl) :
    FS X T E (.Assign [.Name y py] (.ListComp elt [⟨tg, iter, ifs, 0⟩] scope pos) spos) (dSet i (dAsL (dLc ti g tt te (own.map (·.2))))) :=
  FS.mk' (ps_setLc hc hN hy hyl hsw hi.pi ok (fun s H C cl fp => (hg s H C cl fp).pg) (fun s H C cl fp => (ht s H C cl fp).pts) (fun s H C cl fp => (he s H C cl fp).pe) hs) fun D sg H q => lc_of hv _ _ _ (asl_of (set_of _ _ _ q))
end

/-! ### a def by its body -/
def startD (N : List Str) (ds : List PyData) : Ev := ds.map .dat ++ List.replicate (N.length - ds.length) .no
theorem er_start {K : PySem.W.Frag} {T : Tb} {H G : Hp} {N : List Str} : ∀ {vs : List V} {ds : List PyData}, DpAll K G vs ds → ER K H (startD N ds) (L2.start N vs) H G := by
  intro vs ds a
  have hl := a.len
  have nown : ∀ (i : Nat) es, (startD N ds)[i]? ≠ some (.obj es) := fun i es q => by
    unfold startD at q
    rw [List.getElem?_append] at q
    split at q
    · rw [List.getElem?_map] at q
      cases hq : ds[i]? with
      | none => rw [hq] at q; cases q
      | some d => rw [hq] at q; cases q
    · rw [List.getElem?_replicate] at q
      split at q <;> cases q
  have nfct : ∀ (i : Nat) f, (startD N ds)[i]? ≠ some (.fct f) := fun i f q => by
    unfold startD at q
    rw [List.getElem?_append] at q
    split at q
    · rw [List.getElem?_map] at q
      cases hq : ds[i]? with
      | none => rw [hq] at q; cases q
      | some d => rw [hq] at q; cases q
    · rw [List.getElem?_replicate] at q
      split at q <;> cases q
  refine ⟨by simp [startD, L2.start, hl], fun i d q => ?_, fun i es q => absurd q (nown i es), fun i j es fs p q => absurd q (nown i es), fun i f q => absurd q (nfct i f)⟩
  unfold startD at q
  rw [List.getElem?_append] at q
  split at q
  · rename_i hi
    rw [List.length_map] at hi
    rw [List.getElem?_map] at q
    cases hq : ds[i]? with
    | none => rw [hq] at q; cases q
    | some d' =>
      rw [hq] at q
      cases q
      obtain ⟨v, h1, h2⟩ := a.atD hq
      refine ⟨v, ?_, h2⟩
      unfold L2.start
      rw [List.getElem?_append_left (by rw [List.length_map]; omega), List.getElem?_map, h1]
      rfl
  · rw [List.getElem?_replicate] at q
    split at q <;> cases q
/-- what a def's body comes to -/
def dFn (t : DS) (N : List Str) : List PyData → M PyData := fun ds Q E => t { nx := fun _ => Q .none, rt := Q, ex := E } (startD N ds)
section
variable {P : Program} {w : World} {K : PySem.W.Frag} {mg : Str → Option Value} {base : Heap} {x qual : Str} {params : Arguments} {body : List Stmt} {scope : Scope} {dvs : List V} {kws : List (Str × V)} {f : Addr} {fd : FuncData} {T : Tb}
/-- a def that lets nothing out -/
theorem fn_mk {N ps : List Str} {k : Nat} {t : DS} {ff : List PyData → M PyData} (F : FunD K x qual params body scope dvs kws f fd) (S : FnScope N ps scope) (len : ∀ ds Q E, ff ds Q E → ds.length = ps.length)
    (hb : ∀ (cdv : Value) (A : Around) (outer : List Env) (s : Shared) (H : Hp) (E : XK), Room k (A.deeper (envOfC qual scope s.heap.objs.size f cdv)) → FSs (cxOf CX0 P w K mg base N qual scope f cdv A outer s H E).nox T E body t)
    (ht : ∀ ds Q E, ff ds Q E → dFn t N ds Q E) : FnOk P w K mg base CX0 (k + 1) f fd ps (spF K T ff) := by
  refine F.ok S (fun vs H Q E ⟨ds, G, Qd, Ed, a, b, c, _⟩ => b.len.trans (len ds Qd Ed c)) fun cdv A outer s H vs Q E hr ⟨ds, G, Qd, Ed, a, b, c, d, x⟩ => ⟨_, PSs.nox (hb cdv A outer s H E hr).pss, ?_⟩
  exact ⟨H, G, startD N ds, G, _, a, er_start (T := T) b, ht ds Qd Ed c, ⟨fun r sg H' G' z _ _ q => d .none .non H' G' z .non q, fun _ _ _ _ _ _ _ q => q.elim, fun _ _ _ _ _ _ _ q => q.elim, fun dd v H' G' z p q => d dd v H' G' z p q, fun c H' G' z q => x c H' G' z q⟩⟩
end
end Fd
end
section
set_option Elab.async false
set_option linter.all false
set_option maxRecDepth 100000
set_option autoImplicit false
set_option maxHeartbeats 2000000
/-! Fd3: operators, comparisons, subscripts, built-ins over data. -/
namespace Fd
open PySem PySem.Spec PyProof.Rows L2 LamX
theorem HR.laidT {T : Tb} {H0 G0 H G : Hp} {p : Addr} {vs : List V} (h : HR T H0 G0 H G) (hp : H p = none) : HR T H G (upd H p (.tup vs)) (upd G p (.tup vs)) := h.laid hp fun ps q => by cases q
theorem HR.laidL {T : Tb} {H0 G0 H G : Hp} {p : Addr} {vs : List V} (h : HR T H0 G0 H G) (hp : H p = none) : HR T H G (upd H p (.lst vs)) (upd G p (.lst vs)) := h.laid hp fun ps q => by cases q
section
variable {X : Cx} {K : PySem.W.Frag} {T : Tb}
theorem opOr {f : Value → Value → Sem Value} {r r' : R2} (h : OpR X f r) (h' : OpR X f r') : OpR X f (fun x y H Q => r x y H Q ∨ r' x y H Q) := h.or h'
theorem callOr {f : Value} {r r' : List V → Hp → VK → Prop} (h : CallR X f r) (h' : CallR X f r') : CallR X f (fun xs H Q => r xs H Q ∨ r' xs H Q) := by
  intro pins s sg H xs us Q I rr q
  rcases q with q | q
  · exact h pins s sg H xs us Q I rr q
  · exact h' pins s sg H xs us Q I rr q

/-! ### + - * // % -/
/-- list + list, both read -/
def rCatS (K : PySem.W.Frag) : R2 := fun x y H Q => ∃ a b xs ys, x = .ref a ∧ y = .ref b ∧ SqL K H a xs ∧ SqL K H b ys ∧ xs.length + ys.length ≤ sizeLine ∧ ∀ p, H p = none → Q (.ref p) (upd H p (.lst (xs ++ ys)))
theorem op_catS : OpR X (binaryOp .Add) (rCatS X.K) := by
  intro pins s sg H x y v u Q I rx ry h
  obtain ⟨a, b, xs, ys, rfl, rfl, ha, hb, hz, q⟩ := h
  cases rx
  cases ry
  obtain ⟨its, r1, p1, z1⟩ := I.list ha
  obtain ⟨its2, r2, p2, z2⟩ := I.list hb
  obtain ⟨⟨cls, dd, data, sl⟩, n, ho, hc, _, hd⟩ := p1
  obtain ⟨⟨cls2, dd2, data2, sl2⟩, n2, ho2, hc2, _, hd2⟩ := p2
  simp only at hc hd hc2 hd2
  subst hc hd hc2 hd2
  have l1 := r1.length
  have l2 := r2.length
  refine concat_meets ⟨_, ho, rfl⟩ ⟨_, ho2, rfl⟩ noFill_list_add seq_list_add PySem.F.slot_list_add PySem.F.entry_list_add (PySem.F.args_list_add_2 _ _) (list_addW a b its.toArray its2.toArray n n2 dd dd2 sl sl2 (by simp; omega)) ⟨ho, ho2, ?_⟩
  have e : its.toArray ++ its2.toArray = (its ++ its2).toArray := by simp
  rw [e]
  exact ⟨.ref _, _, I.lnew (t' := s.toks) (r1.append r2) (by rw [List.length_append]; omega), rfl, q _ I.fresh⟩
def rAddA (K : PySem.W.Frag) : R2 := fun x y H Q => (∃ i j, x = .int i ∧ y = .int j ∧ Q (.int (i + j)) H) ∨ (∃ i j, x = .str i ∧ y = .str j ∧ i.length + j.length ≤ sizeLine ∧ Q (.str (i ++ j)) H) ∨ rCatA K x y H Q ∨ rCatS K x y H Q
theorem op_addA : OpR X (binaryOp .Add) (rAddA X.K) := opOr op_add (opOr op_add_str (opOr op_catA op_catS))
def dAdd : PyData → PyData → M PyData
  | .int i, .int j, Q, _ => Q (.int (i + j))
  | .str x, .str y, Q, _ => x.length + y.length ≤ sizeLine ∧ Q (.str (x ++ y))
  | .tuple xs, .tuple ys, Q, _ => xs.length + ys.length ≤ sizeLine ∧ Q (.tuple (xs ++ ys))
  | .list xs, .list ys, Q, _ => xs.length + ys.length ≤ sizeLine ∧ Q (.list (xs ++ ys))
  | _, _, _, _ => False
theorem od_add : OpD K T (rAddA K) dAdd := by
  intro x y d1 d2 H G Qd Ed Q h p1 p2 w k
  cases p1 with
  | int i => cases p2 with
    | int j => exact .inl ⟨i, j, rfl, rfl, k _ _ H G h (.int _) w⟩
    | _ => exact w.elim
  | str i => cases p2 with
    | str j => exact .inr (.inl ⟨i, j, rfl, rfl, w.1, k _ _ H G h (.str _) w.2⟩)
    | _ => exact w.elim
  | tup hs ha => cases p2 with
    | tup hs2 ha2 =>
      refine .inr (.inr (.inl ⟨_, _, _, _, rfl, rfl, sqT_mono h.sub hs, sqT_mono h.sub hs2, by rw [ha.len, ha2.len]; exact w.1, fun e => ?_, fun _ e => ?_, fun _ _ p hp => ?_⟩))
      · subst e
        cases ha
        exact k _ _ H G h (.tup hs2 ha2) w.2
      · subst e
        cases ha2
        have w2 := w.2
        rw [List.append_nil] at w2
        exact k _ _ H G h (.tup hs ha) w2
      · exact k _ _ _ _ (h.laidT hp) (.tup (SqT.of upd_same) ((ha.app ha2).up (h.laidT hp).g0)) w.2
    | _ => exact w.elim
  | lst hs ha => cases p2 with
    | lst hs2 ha2 =>
      refine .inr (.inr (.inr ⟨_, _, _, _, rfl, rfl, h.sub.seq hs, h.sub.seq hs2, by rw [ha.len, ha2.len]; exact w.1, fun p hp => ?_⟩))
      exact k _ _ _ _ (h.laidL hp) (.lst (SqL.of upd_same) ((ha.app ha2).up (h.laidL hp).g0)) w.2
    | _ => exact w.elim
  | _ => exact w.elim
/-- ints alone -/
def dI (C : Int → Int → Prop) (g : Int → Int → PyData) : PyData → PyData → M PyData
  | .int i, .int j, Q, _ => C i j ∧ Q (g i j)
  | _, _, _, _ => False
theorem od_I {C C' : Int → Int → Prop} {g : Int → Int → V} {g' : Int → Int → PyData} (hc : ∀ i j, C' i j → C i j) (hg : ∀ i j G, Dp K G (g i j) (g' i j)) : OpD K T (rI C g) (dI C' g') := by
  intro x y d1 d2 H G Qd Ed Q h p1 p2 w k
  cases p1 with
  | int i => cases p2 with
    | int j => exact ⟨i, j, rfl, rfl, hc i j w.1, k _ _ H G h (hg i j G) w.2⟩
    | _ => exact w.elim
  | _ => exact w.elim
def dI0 (g : Int → Int → PyData) : PyData → PyData → M PyData
  | .int i, .int j, Q, _ => Q (g i j)
  | _, _, _, _ => False
theorem od_I0 {g : Int → Int → V} {g' : Int → Int → PyData} (hg : ∀ i j G, Dp K G (g i j) (g' i j)) : OpD K T (rI0 g) (dI0 g') := by
  intro x y d1 d2 H G Qd Ed Q h p1 p2 w k
  cases p1 with
  | int i => cases p2 with
    | int j => exact ⟨i, j, rfl, rfl, k _ _ H G h (hg i j G) w⟩
    | _ => exact w.elim
  | _ => exact w.elim
abbrev dSub : PyData → PyData → M PyData := dI0 fun i j => .int (i - j)
theorem od_sub : OpD K T (rI0 fun i j => .int (i - j)) dSub := od_I0 fun _ _ _ => .int _
/-- a product: one factor within 64 bits, or both together below a million bits -/
def CM (i j : Int) : Prop := CMul i j ∨ CMulW i j
theorem op_mulA : OpR X (binaryOp .Mult) (rI CM fun i j => .int (i * j)) := opI fun i j _ _ _ _ _ hc q => mul_int q (by
  rcases hc with z | z
  · exact z.ok
  · exact z.ok)
abbrev dMul : PyData → PyData → M PyData := dI CM fun i j => .int (i * j)
theorem od_mul : OpD K T (rI CM fun i j => .int (i * j)) dMul := od_I (fun _ _ h => h) fun _ _ _ => .int _
abbrev dDiv : PyData → PyData → M PyData := dI CDivW fun i j => .int (i / j)
theorem od_div : OpD K T (rI CDivW fun i j => .int (i / j)) dDiv := od_I (fun _ _ h => h) fun _ _ _ => .int _
abbrev dMod : PyData → PyData → M PyData := dI (fun _ j => 0 < j) fun i j => .int (i % j)
theorem od_mod : OpD K T (rI (fun _ j => 0 < j) fun i j => .int (i % j)) dMod := od_I (fun _ _ h => h) fun _ _ _ => .int _

/-! ### comparisons -/
abbrev dLt : PyData → PyData → M PyData := dI0 fun i j => .bool (decide (i < j))
abbrev dLe : PyData → PyData → M PyData := dI0 fun i j => .bool (decide (i ≤ j))
abbrev dGt : PyData → PyData → M PyData := dI0 fun i j => .bool (decide (j < i))
abbrev dGe : PyData → PyData → M PyData := dI0 fun i j => .bool (decide (j ≤ i))
theorem od_lt : OpD K T (rI0 fun i j => .bl (decide (i < j))) dLt := od_I0 fun _ _ _ => .bl _
theorem od_le : OpD K T (rI0 fun i j => .bl (decide (i ≤ j))) dLe := od_I0 fun _ _ _ => .bl _
theorem od_gt : OpD K T (rI0 fun i j => .bl (decide (j < i))) dGt := od_I0 fun _ _ _ => .bl _
theorem od_ge : OpD K T (rI0 fun i j => .bl (decide (j ≤ i))) dGe := od_I0 fun _ _ _ => .bl _
@[simp] def dEq : PyData → PyData → M PyData := fun a b Q _ => SeqAt.shaped a = true ∧ SeqAt.shaped b = true ∧ Q (.bool (PyData.eqv a b))
@[simp] def dNe : PyData → PyData → M PyData := fun a b Q _ => SeqAt.shaped a = true ∧ SeqAt.shaped b = true ∧ Q (.bool (!PyData.eqv a b))
theorem od_eq : OpD K T (rEqD K) dEq := fun x y d1 d2 H G Qd Ed Q h p1 p2 w k => ⟨d1, d2, p1.up h.sub, p2.up h.sub, w.1, w.2.1, k _ _ H G h (.bl _) w.2.2⟩
theorem od_ne : OpD K T (rNeD K) dNe := fun x y d1 d2 H G Qd Ed Q h p1 p2 w k => ⟨d1, d2, p1.up h.sub, p2.up h.sub, w.1, w.2.1, k _ _ H G h (.bl _) w.2.2⟩
/-- is None -/
@[simp] def isN : PyData → Bool
  | .none => true
  | _ => false
theorem isN_of {G : Hp} {v : V} {d : PyData} (p : Dp K G v d) : decide (v = .non) = isN d := by
  cases p <;> first | rfl | exact decide_eq_false (fun z => by cases z)
@[simp] def dIsN : PyData → PyData → M PyData := fun a b Q _ => b = .none ∧ Q (.bool (isN a))
@[simp] def dNotN : PyData → PyData → M PyData := fun a b Q _ => b = .none ∧ Q (.bool (!isN a))
theorem od_isN : OpD K T (fun x y H Q => y = .non ∧ Q (.bl (decide (x = .non))) H) dIsN := fun x y d1 d2 H G Qd Ed Q h p1 p2 w k => by
  obtain ⟨e, w⟩ := w
  subst e
  cases p2
  exact ⟨rfl, by rw [isN_of p1]; exact k _ _ H G h (.bl _) w⟩
theorem od_notN : OpD K T (fun x y H Q => y = .non ∧ Q (.bl (!decide (x = .non))) H) dNotN := fun x y d1 d2 H G Qd Ed Q h p1 p2 w k => by
  obtain ⟨e, w⟩ := w
  subst e
  cases p2
  exact ⟨rfl, by rw [isN_of p1]; exact k _ _ H G h (.bl _) w⟩
@[simp] def dIsB : PyData → PyData → M PyData := fun a b Q _ => ∃ i j : Bool, a = .bool i ∧ b = .bool j ∧ Q (.bool (decide (i = j)))
@[simp] def dNotB : PyData → PyData → M PyData := fun a b Q _ => ∃ i j : Bool, a = .bool i ∧ b = .bool j ∧ Q (.bool (!decide (i = j)))
theorem od_isB : OpD K T rIsB dIsB := fun x y d1 d2 H G Qd Ed Q h p1 p2 w k => by
  obtain ⟨i, j, e1, e2, w⟩ := w
  subst e1 e2
  cases p1
  cases p2
  exact ⟨i, j, rfl, rfl, k _ _ H G h (.bl _) w⟩
theorem od_notB : OpD K T rNotB dNotB := fun x y d1 d2 H G Qd Ed Q h p1 p2 w k => by
  obtain ⟨i, j, e1, e2, w⟩ := w
  subst e1 e2
  cases p1
  cases p2
  exact ⟨i, j, rfl, rfl, k _ _ H G h (.bl _) w⟩

/-! ### subscripts -/
def dIxI : PyData → Int → (PyData → Prop) → Prop
  | .list ds, i, Q => ∃ d, atI ds i = some d ∧ Q d
  | .tuple ds, i, Q => ∃ d, atI ds i = some d ∧ Q d
  | .str z, i, Q => z.length ≤ sizeLine ∧ ∃ c, atI z.cps.toList i = some c ∧ Q (.str ⟨#[c]⟩)
  | _, _, _ => False
@[simp] def dIx : PyData → PyData → M PyData := fun a b Q _ => ∃ i, b = .int i ∧ dIxI a i Q
theorem atI_of {G : Hp} {vs : List V} {ds : List PyData} {i : Int} {d : PyData} (ha : DpAll K G vs ds) (e : atI ds i = some d) : ∃ v, atI vs i = some v ∧ Dp K G v d := by
  unfold atI at e ⊢
  rw [ha.len]
  cases q : ixN ds.length i with
  | none => rw [q] at e; cases e
  | some j =>
    rw [q] at e
    have e2 : ds[j]? = some d := e
    obtain ⟨v, h1, h2⟩ := ha.atD e2
    exact ⟨v, h1, h2⟩
theorem od_ix : OpD K T (rIx K) dIx := by
  intro x y d1 d2 H G Qd Ed Q h p1 p2 w k
  obtain ⟨i, e, w⟩ := w
  subst e
  cases p2
  cases p1 with
  | lst hs ha =>
    obtain ⟨d, e, q⟩ := w
    obtain ⟨v, e1, e2⟩ := atI_of ha e
    exact .inl ⟨_, _, i, v, rfl, rfl, h.sub.seq hs, e1, k _ _ H G h e2 q⟩
  | tup hs ha =>
    obtain ⟨d, e, q⟩ := w
    obtain ⟨v, e1, e2⟩ := atI_of ha e
    exact .inr (.inl ⟨_, _, i, v, rfl, rfl, sqT_mono h.sub hs, e1, k _ _ H G h e2 q⟩)
  | str z =>
    obtain ⟨hz, c, e, q⟩ := w
    exact .inr (.inr ⟨z, i, c, rfl, rfl, hz, e, k _ _ H G h (.str _) q⟩)
  | _ => exact w.elim
variable {E : XK} {a b e : Expr} {es : List Expr} {ta tb : DE} {pos : Pos}
theorem fe_ix (ha : FE X T E a ta) (hb : FE X T E b tb) (hs : PlainIx b := by exact fun _ _ => rfl) : FE X T E (.Subscript a b pos) (dOp dIx ta tb) := FE.mk' (pe_ix ix_seq ha.pe hb.pe hs) (two od_ix)
/-- of a list that is one's own -/
@[simp] def dIxQ (tq : DQ) (tb : DE) : DE := fun r Q E => tq r (fun b ds => tb r (fun y => ∃ i d, y = .int i ∧ atI ds i = some d ∧ Q d) E) E
theorem fe_ixQ {tq : DQ} (ha : FQ X T E a tq) (hb : FE X T E b tb) (hs : PlainIx b := by exact fun _ _ => rfl) : FE X T E (.Subscript a b pos) (dIxQ tq tb) := by
  refine FE.mk' (pe_ix ix_seq ha.pe hb.pe hs) fun sg H Q ⟨H0, G0, r, G, Qd, Ed, h, er, w, k, x⟩ => ?_
  refine ⟨H0, G0, r, G, _, Ed, h, er, w, fun bb ds p vs H1 G1 h1 sq p1 w1 => ?_, x⟩
  refine ⟨H0, G0, r, G1, _, Ed, h.trans h1, er.grow h1, w1, fun d2 v2 H2 G2 h2 p2 w2 => ?_, x.up h1⟩
  obtain ⟨i, d, e, e2, q⟩ := w2
  subst e
  cases p2
  obtain ⟨v, e3, e4⟩ := atI_of (p1.up h2.g0) e2
  cases bb with
  | true =>
    have sq2 : SqL X.K H2 p vs := by
      rcases sq with (z | ⟨o, z⟩) | z
      · exact .inl (.inl (h2.ext _ _ z (fun ps q => by cases q)))
      · exact .inl (.inr ⟨o, h2.ext _ _ z (fun ps q => by cases q)⟩)
      · exact .inr z
    exact .inl ⟨_, _, i, v, rfl, rfl, sq2, e3, k _ _ H2 G2 (h1.trans h2) e4 q⟩
  | false =>
    have sq2 : SqT X.K H2 p vs := by
      rcases sq with (z | ⟨o, z⟩) | z
      · exact .inl (.inl (h2.ext _ _ z (fun ps q => by cases q)))
      · exact .inl (.inr ⟨o, h2.ext _ _ z (fun ps q => by cases q)⟩)
      · exact .inr z
    exact .inr (.inl ⟨_, _, i, v, rfl, rfl, sq2, e3, k _ _ H2 G2 (h1.trans h2) e4 q⟩)

/-! ### slices -/
abbrev DO := Ev → (Option Int → Prop) → (Value → Prop) → Prop
def lfO (K : PySem.W.Frag) (T : Tb) (E : XK) (t : DO) : TO := fun sg H Q => ∃ H0 G0 r G Qd Ed, HR T H0 G0 H G ∧ ER K H0 r sg H G ∧ t r Qd Ed ∧
  (∀ b H' G', HR T H G H' G' → Qd b → Q b H') ∧ Xc T E H G Ed
structure FO (X : Cx) (T : Tb) (E : XK) (e : Option Expr) (t : DO) : Prop where
  po : PO X e (lfO X.K T E t)
@[simp] def dNoPart : DO := fun _ Q _ => Q none
@[simp] def dPart (t : DE) : DO := fun r Q E => t r (fun d => ∃ i, d = .int i ∧ Q (some i)) E
theorem fo_none : FO X T E none dNoPart := ⟨⟨fun pins s sg H Q I ⟨H0, G0, r, G, Qd, Ed, h, er, w, k, x⟩ => po_none.run pins s sg H Q I (k none H G h.refl w)⟩⟩
theorem fo_some (ha : FE X T E e ta) : FO X T E (some e) (dPart ta) := ⟨⟨fun pins s sg H Q I ⟨H0, G0, r, G, Qd, Ed, h, er, w, k, x⟩ => (po_some ha.pe).run pins s sg H Q I
  ⟨H0, G0, r, G, _, Ed, h, er, w, fun d v H' G' z p ⟨i, e, q⟩ => by
    subst e
    cases p
    exact ⟨i, rfl, k _ H' G' z q⟩, x⟩⟩⟩
def cutD {A : Type} (xs : List A) (lo hi : Option Int) : List A := (xs.drop (HT.sIx xs.length 0 lo)).take (HT.sIx xs.length xs.length hi - HT.sIx xs.length 0 lo)
theorem cut_of {G : Hp} {vs : List V} {ds : List PyData} (ha : DpAll K G vs ds) (lo hi : Option Int) : DpAll K G (cutV vs lo hi) (cutD ds lo hi) := by
  unfold cutV cutD
  rw [ha.len]
  exact (ha.drop _).take _
theorem cut_all {vs : List V} {lo hi : Option Int} (h : HT.sIx vs.length 0 lo = 0 ∧ HT.sIx vs.length vs.length hi = vs.length) : cutV vs lo hi = vs := by
  unfold cutV
  rw [h.1, h.2]
  simp
def dCut : PyData → Option Int → Option Int → M PyData
  | .list ds, lo, hi, Q, _ => Q (.list (cutD ds lo hi))
  | .tuple ds, lo, hi, Q, _ => Q (.tuple (cutD ds lo hi))
  | .str z, lo, hi, Q, _ => z.length ≤ sizeLine ∧ Q (.str (cutS z lo hi))
  | _, _, _, _, _ => False
@[simp] def dSlice (ta : DE) (tl th : DO) : DE := fun r Q E => ta r (fun d => tl r (fun lo => th r (fun hi => dCut d lo hi Q E) E) E) E
def rSlAll (K : PySem.W.Frag) : V → Option Int → Option Int → Hp → VK → Prop := fun x lo hi H Q => rSlL K x lo hi H Q ∨ rSlA K x lo hi H Q ∨ rSlS x lo hi H Q
theorem sl_all : SlR X (rSlAll X.K) := sl_list.or (sl_tupA.or sl_str)
theorem fe_slice {lo hi : Option Expr} {tl th : DO} {p2 : Pos} (ha : FE X T E e ta) (hl : FO X T E lo tl) (hu : FO X T E hi th) : FE X T E (.Subscript e (.Slice lo hi none p2) pos) (dSlice ta tl th) := by
  refine FE.mk' (pe_slice sl_all ha.pe hl.po hu.po) fun sg H Q ⟨H0, G0, r, G, Qd, Ed, h, er, w, k, x⟩ => ?_
  refine ⟨H0, G0, r, G, _, Ed, h, er, w, fun d v H1 G1 h1 p1 w1 => ?_, x⟩
  refine ⟨H0, G0, r, G1, _, Ed, h.trans h1, er.grow h1, w1, fun l H2 G2 h2 w2 => ?_, x.up h1⟩
  refine ⟨H0, G0, r, G2, _, Ed, (h.trans h1).trans h2, (er.grow h1).grow h2, w2, fun u H3 G3 h3 w3 => ?_, (x.up h1).up h2⟩
  have h13 := (h1.trans h2).trans h3
  have p3 := p1.up (h2.g0.trans h3.g0)
  cases p3 with
  | lst hs ha =>
    refine .inl ⟨_, _, rfl, h3.sub.seq hs, fun p hp => ?_⟩
    exact k _ _ _ _ (h13.trans (h13.laidL hp)) (.lst (SqL.of upd_same) ((cut_of ha l u).up (h13.laidL hp).g0)) w3
  | tup hs ha =>
    refine .inr (.inl ⟨_, _, rfl, sqT_mono h3.sub hs, fun hw => ?_, fun hw p hp => ?_⟩)
    · have e2 := cut_of ha l u
      rw [cut_all hw] at e2
      exact k _ _ _ _ h13 (.tup hs e2) w3
    · exact k _ _ _ _ (h13.trans (h13.laidT hp)) (.tup (SqT.of upd_same) ((cut_of ha l u).up (h13.laidT hp).g0)) w3
  | str y => exact .inr (.inr ⟨y, rfl, w3.1, k _ _ _ _ h13 (.str _) w3.2⟩)
  | _ => exact w3.elim

/-! ### built-ins of one sequence -/
def SeqD (K : PySem.W.Frag) (T : Tb) (rr : List V → Hp → VK → Prop) (f : Bool → List PyData → M PyData) : Prop := ∀ a vs b ds H G Qd Ed (Q : VK), HR T H G H G → SqA K H a vs b → DpAll K G vs ds → f b ds Qd Ed → (∀ d v H' G', HR T H G H' G' → Dp K G' v d → Qd d → Q v H') → rr [.ref a] H Q
@[simp] def dCallQ (f : Bool → List PyData → M PyData) (tq : DQ) : DE := fun r Q E => tq r (fun b ds => f b ds Q E) E
theorem lf_callQ {tq : DQ} {rr : List V → Hp → VK → Prop} {f : Bool → List PyData → M PyData} (hd : SeqD X.K T rr f) : ∀ sg H Q, lf X.K T E (dCallQ f tq) sg H Q → tCB rr (tCons (lfQ X.K T E tq) tNil) sg H Q := by
  intro sg H Q ⟨H0, G0, r, G, Qd, Ed, h, er, w, k, x⟩
  refine ⟨H0, G0, r, G, _, Ed, h, er, w, fun b ds a vs H1 G1 h1 sq p1 w1 => ?_, x⟩
  exact hd a vs b ds H1 G1 Qd Ed Q h1.refl sq p1 w1 fun d v H' G' z => k d v H' G' (h1.trans z)
theorem fe_callBQ {id : String} {rr : List V → Hp → VK → Prop} {x : Str} {p : Pos} {f : Bool → List PyData → M PyData} {tq : DQ} (hc : CallR X (.builtin id) rr) (hd : SeqD X.K T rr f) (hg : Gl X x) (hm : X.mg x = none) (hv : bootBuiltins x = some (.builtin id)) (ha : FQ X T E e tq) (hn : x ≠ "__name__" := by decide) (hdb : (x == ("__debug__" : Str)) = false := by decide)
    (he : starEach [e] X.env = (false, eval e X.env) :: starEach [] X.env := by rfl) (hpl : (backTo pos (starEach [] X.env)).any (·.1) = false := by rfl) : FE X T E (.Call (.Name x p) [e] [] pos) (dCallQ f tq) :=
  FE.mk' (pe_callB hc hg hm hv (pa_cons ha.pe pa_nil he) hn hdb he hpl) (lf_callQ hd)
theorem fe_callTyQ {id : String} {rr : List V → Hp → VK → Prop} {x : Str} {p : Pos} {f : Bool → List PyData → M PyData} {tq : DQ} (hc : CallR X (.type id) rr) (hd : SeqD X.K T rr f) (hg : Gl X x) (hm : X.mg x = none) (hv : bootBuiltins x = some (.type id)) (ha : FQ X T E e tq) (hn : x ≠ "__name__" := by decide) (hdb : (x == ("__debug__" : Str)) = false := by decide)
    (he : starEach [e] X.env = (false, eval e X.env) :: starEach [] X.env := by rfl) (hpl : (backTo pos (starEach [] X.env)).any (·.1) = false := by rfl) : FE X T E (.Call (.Name x p) [e] [] pos) (dCallQ f tq) :=
  FE.mk' (pe_callTy hc hg hm hv (pa_cons ha.pe pa_nil he) hn hdb he hpl) (lf_callQ hd)
@[simp] def dLenQ : Bool → List PyData → M PyData := fun _ ds Q _ => Q (.int ds.length)
theorem sd_len : SeqD K T (fun xs H Q => ∃ p ys, xs = [.ref p] ∧ (SqL K H p ys ∨ SqT K H p ys) ∧ Q (.int ys.length) H) dLenQ := by
  intro a vs b ds H G Qd Ed Q h sq p w k
  have e : (vs.length : Int) = ds.length := by rw [p.len]
  refine ⟨a, vs, rfl, ?_, by rw [e]; exact k _ _ H G h (.int _) w⟩
  cases b with
  | true => exact .inl sq
  | false => exact .inr sq
def dLen : List PyData → M PyData
  | [.list ds], Q, _ => Q (.int ds.length)
  | [.tuple ds], Q, _ => Q (.int ds.length)
  | [.str z], Q, _ => z.length ≤ sizeLine ∧ Q (.int z.length)
  | _, _, _ => False
theorem call_lenA : CallR X (.builtin "len") (fun xs H Q => (∃ p ys, xs = [.ref p] ∧ (SqL X.K H p ys ∨ SqT X.K H p ys) ∧ Q (.int ys.length) H) ∨ ∃ z, xs = [.str z] ∧ z.length ≤ sizeLine ∧ Q (.int z.length) H) := callOr call_len_seq call_len_str
theorem cd_len : CallD K T (fun xs H Q => (∃ p ys, xs = [.ref p] ∧ (SqL K H p ys ∨ SqT K H p ys) ∧ Q (.int ys.length) H) ∨ ∃ z, xs = [.str z] ∧ z.length ≤ sizeLine ∧ Q (.int z.length) H) dLen := by
  intro vs ds H G Qd Ed Q h p w k
  cases p with
  | nil => exact w.elim
  | cons p1 p2 =>
    cases p2 with
    | cons => cases p1 <;> exact w.elim
    | nil =>
      cases p1 with
      | lst hs ha => exact .inl ⟨_, _, rfl, .inl (h.sub.seq hs), by rw [show ((_ : Nat) : Int) = _ from congrArg _ ha.len]; exact k _ _ H G h (.int _) w⟩
      | tup hs ha => exact .inl ⟨_, _, rfl, .inr (sqT_mono h.sub hs), by rw [show ((_ : Nat) : Int) = _ from congrArg _ ha.len]; exact k _ _ H G h (.int _) w⟩
      | str z => exact .inr ⟨z, rfl, w.1, k _ _ H G h (.int _) w.2⟩
      | _ => exact w.elim
/-- tuple(list), tuple(tuple) -/
@[simp] def dTupQ : Bool → List PyData → M PyData := fun _ ds Q _ => Q (.tuple ds)
theorem sd_tuple {G0 : Hp} : SeqD K T (fun xs H Q => ∃ p ys, xs = [.ref p] ∧ ((SqL K H p ys ∧ ∀ l, H l = none → Q (.ref l) (upd H l (.tup ys))) ∨ (SqT K H p ys ∧ Q (.ref p) H))) (fun b ds Q E => b = true ∧ dTupQ b ds Q E) := by
  intro a vs b ds H G Qd Ed Q h sq p w k
  obtain ⟨hb, w⟩ := w
  subst hb
  refine ⟨a, vs, rfl, .inl ⟨sq, fun l hl => ?_⟩⟩
  have z := h.laid hl (o := .tup vs) (fun ps q => by cases q)
  exact k _ _ _ _ z (.tup (SqT.of upd_same) (p.up z.g0)) w
def dTupOf : List PyData → M PyData
  | [.list ds], Q, _ => Q (.tuple ds)
  | [.tuple ds], Q, _ => Q (.tuple ds)
  | _, _, _ => False
theorem cd_tuple : CallD K T (fun xs H Q => ∃ p ys, xs = [.ref p] ∧ ((SqL K H p ys ∧ ∀ l, H l = none → Q (.ref l) (upd H l (.tup ys))) ∨ (SqT K H p ys ∧ Q (.ref p) H))) dTupOf := by
  intro vs ds H G Qd Ed Q h p w k
  cases p with
  | nil => exact w.elim
  | cons p1 p2 =>
    cases p2 with
    | cons => cases p1 <;> exact w.elim
    | nil =>
      cases p1 with
      | lst hs ha =>
        refine ⟨_, _, rfl, .inl ⟨h.sub.seq hs, fun l hl => ?_⟩⟩
        exact k _ _ _ _ (h.laidT hl) (.tup (SqT.of upd_same) (ha.up (h.laidT hl).g0)) w
      | tup hs ha => exact ⟨_, _, rfl, .inr ⟨sqT_mono h.sub hs, k _ _ H G h (.tup hs ha) w⟩⟩
      | _ => exact w.elim
/-- tuple(xs) where xs is a list of one's own -/
theorem fe_tupleQ {x : Str} {p : Pos} {tq : DQ} (hg : Gl X x) (hm : X.mg x = none) (hv : bootBuiltins x = some (.type "tuple")) (ha : FQ X T E e tq) (hn : x ≠ "__name__" := by decide) (hdb : (x == ("__debug__" : Str)) = false := by decide)
    (he : starEach [e] X.env = (false, eval e X.env) :: starEach [] X.env := by rfl) (hpl : (backTo pos (starEach [] X.env)).any (·.1) = false := by rfl) : FE X T E (.Call (.Name x p) [e] [] pos) (dCallQ (fun b ds Q E => b = true ∧ dTupQ b ds Q E) tq) :=
  fe_callTyQ call_tuple_of (sd_tuple (G0 := fun _ => none)) hg hm hv ha hn hdb he hpl
/-- list(x): a new one -/
@[simp] def dSeqL (tq : DQ) : DA := fun r Q E => tq r (fun _ ds => Q ds) E
theorem fn_listQ {x : Str} {p : Pos} {tq : DQ} (hg : Gl X x) (hm : X.mg x = none) (hv : bootBuiltins x = some (.type "list")) (ha : FQ X T E e tq) (hn : x ≠ "__name__" := by decide) (hdb : (x == ("__debug__" : Str)) = false := by decide)
    (he : starEach [e] X.env = (false, eval e X.env) :: starEach [] X.env := by rfl) (hpl : (backTo pos (starEach [] X.env)).any (·.1) = false := by rfl) : FN X T E (.Call (.Name x p) [e] [] pos) (dSeqL tq) := by
  refine FN.mk' (pe_callTy call_list_of hg hm hv (pa_cons ha.pe pa_nil he) hn hdb he hpl) fun sg H Q ⟨H0, G0, r, G, Qd, Ed, h, er, w, k, x⟩ => ?_
  refine ⟨H0, G0, r, G, _, Ed, h, er, w, fun b ds a vs H1 G1 h1 sq p1 w1 => ?_, x⟩
  refine ⟨a, vs, rfl, ?_, fun l hl => ?_⟩
  · cases b with
    | true => exact .inl sq
    | false => exact .inr sq
  · have gp : G1 l = none := by
      cases q : G1 l with
      | none => rfl
      | some u => rw [h1.sub l u q] at hl; cases hl
    exact k ds l vs _ G1 (h1.trans (h1.laidO hl)) ((NT.none hl).back h1.ext) upd_same gp p1 w1
/-- sum, all, any, max, min of a list -/
@[simp] def dSumQ : Bool → List PyData → M PyData := fun b ds Q _ => b = true ∧ ∃ ns : List Int, ds = ns.map .int ∧ Q (.int ns.sum)
theorem sd_sum : SeqD K T (rSum K) dSumQ := by
  intro a vs b ds H G Qd Ed Q h sq p ⟨hb, ns, e, w⟩ k
  subst hb e
  have ev := p.ofInts
  subst ev
  exact ⟨a, ns, rfl, sq, k _ _ H G h (.int _) w⟩
@[simp] def dAllQ : Bool → List PyData → M PyData := fun b ds Q _ => b = true ∧ ∃ bs : List Bool, ds = bs.map .bool ∧ Q (.bool (bs.all id))
def anyB (bs : List Bool) : Bool := bs.any id
@[simp] def dAnyQ : Bool → List PyData → M PyData := fun b ds Q _ => b = true ∧ ∃ bs : List Bool, ds = bs.map .bool ∧ Q (.bool (anyB bs))
theorem sd_all : SeqD K T (rAll K) dAllQ := by
  intro a vs b ds H G Qd Ed Q h sq p ⟨hb, ns, e, w⟩ k
  subst hb e
  have ev := p.ofBools
  subst ev
  exact ⟨a, ns, rfl, sq, k _ _ H G h (.bl _) w⟩
theorem sd_any : SeqD K T (rAny K) dAnyQ := by
  intro a vs b ds H G Qd Ed Q h sq p ⟨hb, ns, e, w⟩ k
  subst hb e
  have ev := p.ofBools
  subst ev
  exact ⟨a, ns, rfl, sq, k _ _ H G h (.bl _) w⟩
@[simp] def dMaxQ : Bool → List PyData → M PyData := fun b ds Q _ => b = true ∧ ∃ ns : List Int, ds = ns.map .int ∧ 0 < ns.length ∧ ∀ m, m ∈ ns → (∀ y, y ∈ ns → y ≤ m) → Q (.int m)
@[simp] def dMinQ : Bool → List PyData → M PyData := fun b ds Q _ => b = true ∧ ∃ ns : List Int, ds = ns.map .int ∧ 0 < ns.length ∧ ∀ m, m ∈ ns → (∀ y, y ∈ ns → m ≤ y) → Q (.int m)
theorem sd_max : SeqD K T (rMax K) dMaxQ := by
  intro a vs b ds H G Qd Ed Q h sq p ⟨hb, ns, e, h0, w⟩ k
  subst hb e
  have ev := p.ofInts
  subst ev
  exact ⟨a, ns, rfl, sq, h0, fun m h1 h2 => k _ _ H G h (.int _) (w m h1 h2)⟩
theorem sd_min : SeqD K T (rMin K) dMinQ := by
  intro a vs b ds H G Qd Ed Q h sq p ⟨hb, ns, e, h0, w⟩ k
  subst hb e
  have ev := p.ofInts
  subst ev
  exact ⟨a, ns, rfl, sq, h0, fun m h1 h2 => k _ _ H G h (.int _) (w m h1 h2)⟩
/-- two ints; one int -/
def dMin2 : List PyData → M PyData
  | [.int i, .int j], Q, _ => Q (.int (if j < i then j else i))
  | _, _, _ => False
def dMax2 : List PyData → M PyData
  | [.int i, .int j], Q, _ => Q (.int (if j > i then j else i))
  | _, _, _ => False
def dAbs : List PyData → M PyData
  | [.int i], Q, _ => Q (.int (if i < 0 then -i else i))
  | _, _, _ => False
def dIntOf : List PyData → M PyData
  | [.int i], Q, _ => Q (.int i)
  | [.bool k], Q, _ => Q (.int (if k then 1 else 0))
  | _, _, _ => False
theorem cd_min2 : CallD K T (fun xs H Q => ∃ i j, xs = [.int i, .int j] ∧ Q (.int (if j < i then j else i)) H) dMin2 := by
  intro vs ds H G Qd Ed Q h p w k
  unfold dMin2 at w
  split at w
  · rename_i i j
    have ev := DpAll.ofInts (ns := [i, j]) p
    subst ev
    exact ⟨i, j, rfl, k _ _ H G h (.int _) w⟩
  · exact w.elim
theorem cd_max2 : CallD K T (fun xs H Q => ∃ i j, xs = [.int i, .int j] ∧ Q (.int (if j > i then j else i)) H) dMax2 := by
  intro vs ds H G Qd Ed Q h p w k
  unfold dMax2 at w
  split at w
  · rename_i i j
    have ev := DpAll.ofInts (ns := [i, j]) p
    subst ev
    exact ⟨i, j, rfl, k _ _ H G h (.int _) w⟩
  · exact w.elim
theorem cd_abs : CallD K T (fun xs H Q => ∃ i, xs = [.int i] ∧ Q (.int (if i < 0 then -i else i)) H) dAbs := by
  intro vs ds H G Qd Ed Q h p w k
  unfold dAbs at w
  split at w
  · rename_i i
    have ev := DpAll.ofInts (ns := [i]) p
    subst ev
    exact ⟨i, rfl, k _ _ H G h (.int _) w⟩
  · exact w.elim
theorem cd_int : CallD K T (fun xs H Q => (∃ i, xs = [.int i] ∧ Q (.int i) H) ∨ ∃ k, xs = [.bl k] ∧ Q (.int (if k then 1 else 0)) H) dIntOf := by
  intro vs ds H G Qd Ed Q h p w k
  unfold dIntOf at w
  split at w
  · rename_i i
    have ev := DpAll.ofInts (ns := [i]) p
    subst ev
    exact .inl ⟨i, rfl, k _ _ H G h (.int _) w⟩
  · rename_i i
    have ev := DpAll.ofBools (ns := [i]) p
    subst ev
    exact .inr ⟨i, rfl, k _ _ H G h (.int _) w⟩
  · exact w.elim
/-! ### isinstance(x, T), T a built-in class -/
@[simp] def tyD : PyData → String
  | .none => "NoneType"
  | .bool _ => "bool"
  | .int _ => "int"
  | .str _ => "str"
  | .list _ => "list"
  | .tuple _ => "tuple"
  | .dict _ => "dict"
theorem ty_of {H : Hp} {v : V} {d : PyData} (p : Dp K H v d) : TyX K H v (.type (tyD d)) := by
  cases p with
  | non => exact .base .non
  | bl b => exact .base (.bl b)
  | int i => exact .base (.int i)
  | str x => exact .base (.str x)
  | lst hs ha =>
    rcases hs with (hs | ⟨o, hs⟩) | ⟨o, its, n, hk, hc, _⟩
    · exact .base (.lst hs)
    · exact .base (.frz hs)
    · exact .kList hk hc
  | tup hs ha =>
    rcases hs with (hs | ⟨o, hs⟩) | ⟨o, its, n, hk, hc, _⟩
    · exact .base (.tup hs)
    · exact .fTuple hs
    · exact .kTuple hk hc
@[simp] def dIsi (c : String) (t : DE) : DE := fun r Q E => t r (fun d => ∃ b, kitB (tyD d) c = some b ∧ Q (.bool b)) E
theorem fe_isi {c : Str} {cn : String} {p p2 : Pos} (hg : Gl X "isinstance") (hm : X.mg "isinstance" = none) (hg2 : Gl X c) (hm2 : X.mg c = none) (hv2 : bootBuiltins c = some (.type cn)) (ha : FE X T E a ta) (hn2 : c ≠ "__name__" := by decide) (hd2 : (c == ("__debug__" : Str)) = false := by decide)
    (hs1 : starEach [a, .Name c p2] X.env = (false, eval a X.env) :: starEach [.Name c p2] X.env := by rfl) (hs2 : starEach [.Name c p2] X.env = (false, eval (.Name c p2) X.env) :: starEach [] X.env := by rfl) (hpl : (backTo pos (starEach [.Name c p2] X.env)).any (·.1) = false := by rfl) :
    FE X T E (.Call (.Name "isinstance" p) [a, .Name c p2] [] pos) (dIsi cn ta) := by
  refine FE.mk' (pe_callB call_isi hg hm (by decide +kernel) (pa_cons ha.pe (pa_cons (pe_bltn (v := .ty cn) hg2 hm2 hv2 rfl hn2 hd2) pa_nil hs2) hs1) (by decide) (by decide) hs1 hpl) fun sg H Q ⟨H0, G0, r, G, Qd, Ed, h, er, w, k, x⟩ => ?_
  refine ⟨H0, G0, r, G, _, Ed, h, er, w, fun d v H1 G1 h1 p1 ⟨b, e, q⟩ => ?_, x⟩
  exact ⟨v, .ty cn, _, _, b, rfl, .ty cn, ty_of (p1.up h1.sub), kit_ty e, k _ _ H1 G1 h1 (.bl b) q⟩

/-! ### list(range(..)), tuple(range(..)) -/
abbrev DR := Ev → (Int → Int → Prop) → (Value → Prop) → Prop
def lfR (K : PySem.W.Frag) (T : Tb) (E : XK) (t : DR) : L2.St → Hp → (Int → Int → Hp → Prop) → Prop := fun sg H Q => ∃ H0 G0 r G Qd Ed, HR T H0 G0 H G ∧ ER K H0 r sg H G ∧ t r Qd Ed ∧
  (∀ i j H' G', HR T H G H' G' → Qd i j → Q i j H') ∧ Xc T E H G Ed
structure FR (X : Cx) (T : Tb) (E : XK) (e : Expr) (t : DR) : Prop where
  pr : PRg X e (lfR X.K T E t)
@[simp] def dRg1 (t : DE) : DR := fun r Q E => t r (fun d => ∃ n, d = .int n ∧ Q 0 n) E
@[simp] def dRg2 (t u : DE) : DR := fun r Q E => t r (fun d => u r (fun d2 => ∃ i j, d = .int i ∧ d2 = .int j ∧ Q i j) E) E
theorem PRg.mono {e : Expr} {t t' : L2.St → Hp → (Int → Int → Hp → Prop) → Prop} (h : PRg X e t) (q : ∀ sg H Q, t' sg H Q → t sg H Q) : PRg X e t' := fun pins s sg H Q I w => h pins s sg H Q I (q sg H Q w)
theorem fr_1 {p : Pos} (hg : Gl X "range") (hm : X.mg "range" = none) (ha : FE X T E a ta) (na : starEach [a] X.env = (false, eval a X.env) :: starEach [] X.env := by rfl) : FR X T E (.Call (.Name "range" p) [a] [] pos) (dRg1 ta) := by
  refine ⟨PRg.mono (prg_1 hg hm ha.pe na) fun sg H Q ⟨H0, G0, r, G, Qd, Ed, h, er, w, k, x⟩ => ?_⟩
  refine ⟨H0, G0, r, G, _, Ed, h, er, w, fun d v H1 G1 h1 p1 ⟨n, e, q⟩ => ?_, x⟩
  subst e
  cases p1
  exact ⟨n, rfl, k _ _ H1 G1 h1 q⟩
@[simp] def dRgL (t : DR) : DA := fun r Q E => t r (fun i j => RgOk i j ∧ Q (rngD i (j - i).toNat)) E
theorem rg_of {G : Hp} (i j : Int) : DpAll K G (rgV i j) (rngD i (j - i).toNat) := by
  have : ∀ l : List Nat, DpAll K G (l.map fun n => V.int (i + (n : Nat))) (l.map fun n => PyData.int (i + (n : Nat))) := fun l => by
    induction l with
    | nil => exact .nil
    | cons n l ih => exact .cons (.int _) ih
  exact this _
theorem fn_listRg {tr : DR} {p : Pos} (hc : X.calm = true) (hg : Gl X "list") (hm : X.mg "list" = none) (he : FR X T E e tr) (na : starEach [e] X.env = (false, eval e X.env) :: starEach [] X.env := by rfl) : FN X T E (.Call (.Name "list" p) [e] [] pos) (dRgL tr) := by
  refine FN.mk' (pe_listRg hc hg hm he.pr na) fun sg H Q ⟨H0, G0, r, G, Qd, Ed, h, er, w, k, x⟩ => ?_
  refine ⟨H0, G0, r, G, _, Ed, h, er, w, fun i j H1 G1 h1 ⟨ok, q⟩ => ⟨ok, fun l hl => ?_⟩, x⟩
  have gp : G1 l = none := by
    cases q : G1 l with
    | none => rfl
    | some u => rw [h1.sub l u q] at hl; cases hl
  exact k _ l _ _ G1 (h1.trans (h1.laidO hl)) ((NT.none hl).back h1.ext) upd_same gp (rg_of i j) q
@[simp] def dRgT (t : DR) : DE := fun r Q E => t r (fun i j => RgOk i j ∧ Q (.tuple (rngD i (j - i).toNat))) E
theorem fe_tupRg {tr : DR} {p : Pos} (hc : X.calm = true) (hg : Gl X "tuple") (hm : X.mg "tuple" = none) (he : FR X T E e tr) (na : starEach [e] X.env = (false, eval e X.env) :: starEach [] X.env := by rfl) : FE X T E (.Call (.Name "tuple" p) [e] [] pos) (dRgT tr) := by
  refine FE.mk' (pe_tupRg hc hg hm he.pr na) fun sg H Q ⟨H0, G0, r, G, Qd, Ed, h, er, w, k, x⟩ => ?_
  refine ⟨H0, G0, r, G, _, Ed, h, er, w, fun i j H1 G1 h1 ⟨ok, q⟩ => ⟨ok, fun l hl => ?_⟩, x⟩
  have z := h1.laid hl (o := .tup (rgV i j)) (fun ps q => by cases q)
  exact k _ _ _ _ (h1.trans z) (.tup (SqT.of upd_same) (rg_of i j)) q

/-! ### a new list times an int -/
@[simp] def dRep (ta : DA) (tb : DE) : DA := fun r Q E => ta r (fun ds => tb r (fun y => ∃ k, y = .int k ∧ 0 ≤ k ∧ k ≤ 1000 ∧ ds.length ≤ 1000 ∧ Q (List.replicate k.toNat ds).flatten) E) E
theorem rep_of {G : Hp} {vs : List V} {ds : List PyData} (h : DpAll K G vs ds) : ∀ n : Nat, DpAll K G (List.replicate n vs).flatten (List.replicate n ds).flatten
  | 0 => .nil
  | n + 1 => by
    rw [List.replicate_succ, List.replicate_succ, List.flatten_cons, List.flatten_cons]
    exact h.app (rep_of h n)
theorem fn_rep {tn : DA} (ha : FN X T E a tn) (hb : FE X T E b tb) : FN X T E (.BinOp a .Mult b pos) (dRep tn tb) := by
  refine FN.mk' (pe_op op_rep ha.pe hb.pe) fun sg H Q ⟨H0, G0, r, G, Qd, Ed, h, er, w, k, x⟩ => ?_
  refine ⟨H0, G0, r, G, _, Ed, h, er, w, fun ds p vs H1 G1 h1 n hp gp p1 w1 => ?_, x⟩
  refine ⟨H0, G0, r, G1, _, Ed, h.trans h1, er.grow h1, w1, fun d2 v2 H2 G2 h2 p2 w2 => ?_, x.up h1⟩
  obtain ⟨m, e, m0, m1, l1, q⟩ := w2
  subst e
  cases p2
  have hp2 : H2 p = some (.lst vs) := h2.ext p _ hp fun ps q => by cases q
  have lv := p1.len
  refine ⟨p, m, vs, rfl, rfl, hp2, by omega, by omega, ?_, fun l hl => ?_⟩
  · rw [sizeLine_eq]
    have a1 : vs.length * m.toNat ≤ 1000 * 1000 := Nat.mul_le_mul (by omega) (by omega)
    omega
  · have gp : G2 l = none := by
      cases q : G2 l with
      | none => rfl
      | some u => rw [h2.sub l u q] at hl; cases hl
    have h12 := h1.trans h2
    exact k _ l _ _ G2 (h12.trans (h2.laidO hl)) ((NT.none hl).back h12.ext) upd_same gp (rep_of (p1.up h2.g0) m.toNat) q

/-! ### append, extend to a list of one's own -/
@[simp] def dApp (i : Nat) (t : DE) : DS := fun D r => ∃ ds, r[i]? = some (.own ds) ∧ t r (fun d => ds.length < sizeLine ∧ D.nx (r.set i (.own (ds ++ [d])))) D.ex
theorem fs_append (i : Nat) {x : Str} {p1 apos cpos : Pos} (he : FE X T E e ta) (hN : X.N[i]? = some x := by rfl) (hv : Vis X.env.scope x := by first | exact Or.inl rfl | exact Or.inr (Or.inl rfl) | exact Or.inr (Or.inr rfl)) (hd : (x == ("__debug__" : Str)) = false := by decide)
    (hcd : (x == ("__classdict__" : Str)) = false := by decide) (hbase : attributeBase (.Name x p1) "append" X.env (eval (.Name x p1) X.env) = eval (.Name x p1) X.env := by rfl)
    (hfew : ((backTo cpos (starEach [e] X.env)).all (fun x => !x.1) && (backToKw cpos (keywordEach [] X.env)).all (fun x => x.1.isSome) && decide ([e].length + ([] : List Keyword).length + (if ([] : List Keyword).isEmpty then 0 else 1) < 30)) = true := by rfl)
    (hline : (apos.endLine == cpos.line) = true := by rfl) (hs : starEach [e] X.env = (false, eval e X.env) :: starEach [] X.env := by rfl) (hplain : (backTo cpos (starEach [] X.env)).any (·.1) = false := by rfl)
    (hsw : swapsWith (.Call (.Attribute (.Name x p1) "append" apos) [e] [] cpos) none pos.line X.env = pure false := by rfl) :
    FS X T E (.Expr (.Call (.Attribute (.Name x p1) "append" apos) [e] [] cpos) pos) (dApp i ta) := by
  refine FS.mk' (ps_expr (pe_bm PySem.F.plainAttrs_list PySem.F.slot_list_append PySem.F.type_list_append mt_append (pe_var hN hv hd hcd) (pa_cons he.pe pa_nil hs) hbase hfew hline hs hplain) hsw) fun D sg H ⟨H0, G0, r, G, Dd, h, er, ⟨ds, hr, w⟩, k⟩ => ?_
  obtain ⟨p, vs, a, b, c, n, d⟩ := er.own i ds hr
  refine ⟨.ref p, a, .inl ⟨rfl, vs, SqL.of b⟩, H0, G0, r, G, _, _, h, er, w, fun dd v H1 G1 h1 p1 ⟨hz, q⟩ => ?_, k.xc h⟩
  have b1 : H1 p = some (.lst vs) := h1.ext p _ b fun ps q => by cases q
  have c1 := h1.noNew b c
  have lv := d.len
  exact ⟨p, vs, v, rfl, rfl, b1, by omega, k.nx _ _ _ G1 ((h.trans h1).poke n b1 c1) h1.g0 ((er.grow h1).pokeO hr a c1 n ((d.up h1.g0).app (.cons p1 .nil))) q⟩
/-- xs.extend(a new list) -/
@[simp] def dExt (i : Nat) (t : DA) : DS := fun D r => ∃ ds, r[i]? = some (.own ds) ∧ t r (fun es => ds.length + es.length ≤ sizeLine ∧ D.nx (r.set i (.own (ds ++ es)))) D.ex
theorem fs_extend (i : Nat) {tn : DA} {x : Str} {p1 apos cpos : Pos} (he : FN X T E e tn) (hN : X.N[i]? = some x := by rfl) (hv : Vis X.env.scope x := by first | exact Or.inl rfl | exact Or.inr (Or.inl rfl) | exact Or.inr (Or.inr rfl)) (hd : (x == ("__debug__" : Str)) = false := by decide)
    (hcd : (x == ("__classdict__" : Str)) = false := by decide) (hbase : attributeBase (.Name x p1) "extend" X.env (eval (.Name x p1) X.env) = eval (.Name x p1) X.env := by rfl)
    (hfew : ((backTo cpos (starEach [e] X.env)).all (fun x => !x.1) && (backToKw cpos (keywordEach [] X.env)).all (fun x => x.1.isSome) && decide ([e].length + ([] : List Keyword).length + (if ([] : List Keyword).isEmpty then 0 else 1) < 30)) = true := by rfl)
    (hline : (apos.endLine == cpos.line) = true := by rfl) (hs : starEach [e] X.env = (false, eval e X.env) :: starEach [] X.env := by rfl) (hplain : (backTo cpos (starEach [] X.env)).any (·.1) = false := by rfl)
    (hsw : swapsWith (.Call (.Attribute (.Name x p1) "extend" apos) [e] [] cpos) none pos.line X.env = pure false := by rfl) :
    FS X T E (.Expr (.Call (.Attribute (.Name x p1) "extend" apos) [e] [] cpos) pos) (dExt i tn) := by
  refine FS.mk' (ps_expr (pe_bm PySem.F.plainAttrs_list PySem.F.slot_list_extend PySem.F.type_list_extend mt_extend (pe_var hN hv hd hcd) (pa_cons he.pe pa_nil hs) hbase hfew hline hs hplain) hsw) fun D sg H ⟨H0, G0, r, G, Dd, h, er, ⟨ds, hr, w⟩, k⟩ => ?_
  obtain ⟨p, vs, a, b, c, n, d⟩ := er.own i ds hr
  refine ⟨.ref p, a, .inl ⟨rfl, vs, SqL.of b⟩, H0, G0, r, G, _, _, h, er, w, fun es q us H1 G1 h1 nq hq gq p1 ⟨hz, qq⟩ => ?_, k.xc h⟩
  have b1 : H1 p = some (.lst vs) := h1.ext p _ b fun ps q => by cases q
  have c1 := h1.noNew b c
  have lv := d.len
  have lu := p1.len
  exact ⟨p, q, vs, us, rfl, rfl, b1, hq, by omega, k.nx _ _ _ G1 ((h.trans h1).poke n b1 c1) h1.g0 ((er.grow h1).pokeO hr a c1 n ((d.up h1.g0).app p1)) qq⟩
end
end Fd
end
section
set_option Elab.async false
set_option linter.all false
set_option maxRecDepth 100000
set_option autoImplicit false
set_option maxHeartbeats 2000000
/-! FdS: sorted(range(n), key=lambda x: e), the lambda with captured names. -/
namespace Fd
open PySem PySem.Spec PyProof.Rows L2 LamX
/-! ### a lambda of one parameter -/
structure LamS1 (sc scope : Scope) (x : Str) : Prop where
  kind : scope.kind = .function
  co : scope.isCoroutine = false
  gen : scope.isGenerator = false
  own : ∀ y ∈ scope.names, (y.2 = .local → y.1 = x) ∧ y.2 ≠ .cell
  loc : scope.names.lookup x = some .local
  free : ∀ y ∈ scope.names, y.2 = .free → sc.names.lookup y.1 = some .cell ∨ sc.names.lookup y.1 = some .free
def lamS1B (sc scope : Scope) (x : Str) : Bool :=
  decide (scope.kind = .function) && !scope.isCoroutine && !scope.isGenerator && decide (scope.names.lookup x = some .local) && scope.names.all fun y => (!decide (y.2 = .local) || decide (y.1 = x)) && !decide (y.2 = .cell) && (!decide (y.2 = .free) || decide (sc.names.lookup y.1 = some .cell) || decide (sc.names.lookup y.1 = some .free))
theorem lamS1_by {sc scope : Scope} {x : Str} (h : lamS1B sc scope x = true) : LamS1 sc scope x := by
  unfold lamS1B at h
  simp only [Bool.and_eq_true, Bool.or_eq_true, Bool.not_eq_true', decide_eq_true_eq, decide_eq_false_iff_not, List.all_eq_true] at h
  obtain ⟨⟨⟨⟨h1, h2⟩, h3⟩, h5⟩, h4⟩ := h
  refine ⟨h1, h2, h3, fun y hy => ⟨fun e => ?_, (h4 y hy).1.2⟩, h5, fun y hy e => ?_⟩
  · rcases (h4 y hy).1.1 with z | z
    · exact absurd e z
    · exact z
  · rcases (h4 y hy).2 with (z | z) | z
    · exact absurd e z
    · exact .inl z
    · exact .inr z
theorem LamS1.has {X : Cx} {scope : Scope} {x : Str} (L : LamS1 X.env.scope scope x) (ok : X.Ok) : ∀ y ∈ scope.names, y.2 = .free → ∃ c, X.env.cells.lookup y.1 = some c := fun y hy e => by
  rcases L.free y hy e with k | k
  · exact ok.has _ (.inl k)
  · exact ok.has _ (.inr k)
section
variable {X : Cx} {pins : List (Addr × Obj)} {sg : L2.St} {H HZ : Hp} {s s1 : Shared}
theorem lam_start1 {A : Around} {outer : List Env} {E : XK} {scope : Scope} {f c' : Addr} {h₁ : Heap} {tk : Nat} {x : Str} {j : Nat} {v : V} {u : Value} (I : Inv X pins sg H s) (L : LamS1 X.env.scope scope x) (hN : X.N.Nodup) (hj : X.N[j]? = some x) (r : RelV v u)
    (e0 : Env0 X.prog X.w X.K X.mg X.base A outer s1 HZ) (hd : A.handled = none)
    (un : Un (frs X.stack) [] H HZ s.heap s1.heap) (hns : h₁.Ns s1.heap.objs.size fun y => ([(x, u)] : List (Str × Value)).reverse.lookup y) (kp : ∀ b o, s1.heap.get? b = some o → h₁.get? b = some o) :
    Inv (lamCx X A outer s1 HZ E scope f c') [] (sg.set j (some v)) HZ { s1 with heap := h₁, toks := tk } := by
  have hfree := L.has I.ok
  have cm : ∀ {y c}, (cloFrom X.env.cells scope.names []).lookup y = some c → X.env.cells.lookup y = some c := fun {y c} e => by
    rcases cloFrom_mem (PySem.mem_of_lookup e) with hm | ⟨h1, h2⟩
    · cases hm
    · obtain ⟨c1, hc⟩ := hfree _ h1 rfl
      have hc : X.env.cells.lookup y = some c1 := hc
      have e2 : c = c1 := by
        rw [h2, hc] <;> rfl
      rw [e2]
      exact hc
  have look : ∀ {y}, scope.names.lookup y = some .free → ∃ c, (cloFrom X.env.cells scope.names []).lookup y = some c := fun {y} hl => by
    have hy : (y, NameKind.free) ∈ scope.names := PySem.mem_of_lookup hl
    exact mem_lookup (cloFrom_has (cells := X.env.cells) (acc := []) hy)
  have cellK : ∀ {c : Addr} {v : Option Value}, H c = none → s.heap.IsCell c v → h₁.IsCell c v := fun {c v} n ⟨o, ho, hd⟩ => by
    obtain ⟨sl, q⟩ := un.any ho n (by simp)
    exact ⟨_, kp _ _ q, hd⟩
  have noA : ∀ b : Addr, b ∉ (lamCx X A outer s1 HZ E scope f c').ex := fun b z => absurd (show b ∈ ([] : List Addr) from z) (by simp)
  refine ⟨⟨e0.mod, L.kind, rfl, rfl, Nat.le_refl _, fun y z c e1 e2 => I.ok.inj y z c (cm e1) (cm e2), fun y hy => ?_, fun y c z _ => ?_, fun _ => hd, Around.frames_deeper e0.frames, .inr ⟨rfl, rfl⟩, fun b z => absurd z (noA b), e0.bs, e0.bsz, fun b _ _ => noA b,
      fun b z => absurd z (noA b), e0.funs, e0.frf⟩,
    rfl, e0.bare, Un.kept kp, ⟨_, hns, fun i y v' e1 e2 e3 => ?_⟩, fun y c e => ?_, e0.hok.fresh (Nat.le_refl _), fun y c e => ?_, fun q hq => absurd (show q ∈ ([] : List (Addr × Obj)) ++ [] from hq) (by simp), e0.hok.kept kp, by rw [List.length_set]; exact I.len⟩
  · have hy : scope.names.lookup y = some .cell ∨ scope.names.lookup y = some .free := hy
    rcases hy with hy | hy
    · exact absurd rfl (L.own _ (PySem.mem_of_lookup hy)).2
    · exact look hy
  · have z : false = true := z
    cases z
  · have e3 : Vis scope y := e3
    rcases e3 with k | k | k
    · have ey : y = x := (L.own _ (PySem.mem_of_lookup k)).1 rfl
      subst ey
      have ij : i = j := nodup_ix hN e1 hj
      subst ij
      rw [List.getElem?_set_self (by rw [I.len]; exact (List.getElem?_eq_some_iff.mp hj).1)] at e2
      cases e2
      exact ⟨u, r, .inl ⟨k, by simp⟩⟩
    · exact absurd rfl (L.own _ (PySem.mem_of_lookup k)).2
    · obtain ⟨m, hn, hl⟩ := I.loc
      have e1' : X.N[i]? = some y := e1
      have hij : j ≠ i := fun z => by
        rw [z, e1'] at hj
        cases hj
        rw [L.loc] at k
        cases k
      rw [List.getElem?_set_ne hij] at e2
      have hvis : Vis X.env.scope y := (L.free _ (PySem.mem_of_lookup k) rfl).elim (fun k => .inr (.inl k)) (fun k => .inr (.inr k))
      obtain ⟨w', r, q⟩ := hl i y v' e1 e2 hvis
      obtain ⟨c2, h2⟩ := look k
      refine ⟨w', r, .inr ⟨.inr k, c2, h2, ?_⟩⟩
      have c1 := cm h2
      rcases q with ⟨k', _⟩ | ⟨_, c3, e', z⟩
      · have k' : X.env.scope.names.lookup y = some .local := k'
        rcases L.free _ (PySem.mem_of_lookup k) rfl with k2 | k2 <;> rw [show X.env.scope.names.lookup y = _ from k2] at k' <;> cases k'
      · rw [c1] at e'
        cases e'
        exact cellK (I.freeC y _ c1) z
  · obtain ⟨w', z⟩ := I.cell y c (cm e)
    exact ⟨w', cellK (I.freeC y c (cm e)) z⟩
  · obtain ⟨v, o, ho, hd⟩ := I.cell y c (cm e)
    exact un.free c o ho (I.freeC y c (cm e)) (by simp)
/-- the lambda is called with one value, from a built-in -/
theorem lam_call1 {f c' : Addr} {pm ctv : Value} {params : Arguments} {body : Expr} {scope : Scope} {k j : Nat} {x : Str} {tb : TE} {A : Around} {v : V} {u : Value} {Q : VK} (I : Inv X pins sg H s) (L : LamS1 X.env.scope scope x) (hN : X.N.Nodup) (hj : X.N[j]? = some x)
    (hf : s.heap.get? f = some (PySem.W.kla_obj "<lambda>" (X.env.qual ++ "<lambda>") params body scope (cloFrom X.env.cells scope.names []) pm c' ctv))
    (hbind : bindArgs (PySem.W.kla_fn "<lambda>" (X.env.qual ++ "<lambda>") params body scope (cloFrom X.env.cells scope.names []) pm (.ref c') ctv) ⟨[u], []⟩ = pure [(x, u)])
    (hc : H c' = some (CodeO c' (X.env.qual ++ "<lambda>"))) (hA : A.frames = X.A.frames) (hr : Room (k + 1) A) (r : RelV v u)
    (hbody : ∀ (A : Around) (outer : List Env) (s : Shared) (H : Hp), Room k (A.deeper (lamEnv X scope s.heap.objs.size f c')) → PE (lamCx X A outer s H (fun _ _ _ => False) scope f c') body tb)
    (ht : tb (sg.set j (some v)) H Q) :
    wpAny (model X.prog X.w) A (call (.ref f) [u]) (fun u' s' => CE X.stack X.prog X.w H s Q u' s') (fun _ _ => False) s := by
  obtain ⟨⟨oc, vs, t, hoc, hdc, hvc⟩, _, _⟩ := I.hok c' _ hc
  have e0 : Env0 X.prog X.w X.K X.mg X.base A X.stack s H := ⟨hA.trans I.env0.frames, I.env0.mod, I.env0.bs, I.env0.bsz, I.env0.funs, I.env0.frf, I.env0.hok, I.env0.bare⟩
  have rc : codeAny (model X.prog X.w) A (.call (.ref f) ⟨[u], []⟩) (CR (L2.CX X.prog X.w) X.stack X.prog X.w H s Q fun _ _ _ => False) s := by
    refine PySem.W.kla_callFunE hr.depth hf rfl L.co L.gen rfl ⟨c', oc, vs, t, rfl, hoc, hdc, hvc⟩ ?_
    rw [hbind]
    refine wpAny_pure (wpAny_newFunctionEnv (fun y hy => (L.own y hy).2) (fun y hy => by
      have e : y = (x, u) := by simpa using hy
      rw [e]
      exact L.loc) (fun h₁ hns hsb => ⟨I.nolimit.fresh _ hsb, ?_⟩) L.kind)
    show codeAny _ _ (.expr body (lamEnv X scope s.heap.objs.size f c')) _ _
    have kp : ∀ b o, s.heap.get? b = some o → h₁.get? b = some o := fun b o e => hsb.extBut b o (Nat.ne_of_lt (Heap.lt_size e)) (Heap.get?_push_of_some _ e)
    have J : Inv (lamCx X A X.stack s H (fun _ _ _ => False) scope f c') [] (sg.set j (some v)) H { s with heap := h₁, toks := s.toks + ([(x, u)] : List (Str × Value)).length } :=
      lam_start1 I L hN hj r e0 hr.hd Un.refl hns kp
    refine PySem.W.kla_codeExpr (wpAny_mono ((hbody _ _ s H (hr.deeper _)).run [] _ _ H Q J ht) (fun v s' hq => ?_) fun e s' hq => hq)
    obtain ⟨w', H', J', rv, q⟩ := hq
    exact ⟨w', H', J'.os, J'.bare, J'.base, J'.hok, rv, q⟩
  refine wpAny_call (codeAny_mono rc fun r s' hq => ?_)
  cases r with
  | error e =>
    obtain ⟨_, _, _, _, _, _, _, _, _, _, _, _, _, _, _, _, z⟩ := hq
  | ok fl =>
    cases fl with
    | ret u => exact hq
    | next => exact False.elim hq
    | brk => exact False.elim hq
    | cont => exact False.elim hq
end

/-! ### the sort by keys -/
open PySem.W in
theorem fpOk_mono {X : Cx} {pins : List (Addr × Obj)} {H H' : Hp} {b : Addr} (f : FpOk X pins H b) (h : H' b = none) : FpOk X pins H' b := ⟨h, f.2⟩
theorem fp_stack {X : Cx} {pins : List (Addr × Obj)} {sg : L2.St} {H : Hp} {s : Shared} {b : Addr} (I : Inv X pins sg H s) (f : FpOk X pins H b) : b ∉ frs X.stack := fun z => by
  rcases List.mem_cons.mp (I.stkSub b z) with e | e
  · exact f.2.1 e
  · exact f.2.2.1 e
theorem alikeInts (ns : List Int) : PySem.W.AllAlike (ns.map PyData.int) := fun d hd d' hd' => by
  obtain ⟨n, _, e⟩ := List.mem_map.mp hd
  obtain ⟨n', _, e'⟩ := List.mem_map.mp hd'
  rw [← e, ← e']
  simp [PySem.W.alike]
theorem sortInts (ns : List Int) : PySem.W.Sortable (ns.map PyData.int) := .inr fun d hd => by
  obtain ⟨n, _, e⟩ := List.mem_map.mp hd
  rw [← e]
  exact ⟨(fun z => by cases z), (fun xs z => by cases z)⟩
section
variable {X : Cx} {pins : List (Addr × Obj)} {sg : L2.St} {H : Hp} {s : Shared}
open PySem.W
/-- list.sort(key=f) of a new list of ints at a; P holds of the heap between the keys' calls -/
theorem sortK_tree {A : Around} {a : Addr} {f : Value} {ns ks : List Int} {vs : List Value} {n : Nat} {P : Hp → Prop} {q : Addr} {oq : Obj} {R : PySem.Fin → Shared → Prop} {E : Value → Shared → Prop} (I : Inv X pins sg H s) (fa : FpOk X pins H a) (hP : P H) (hq : s.heap.get? q = some oq) (nq : H q = none) (fq : q ∉ frs X.stack) (qa : q ≠ a)
    (ho : s.heap.get? a = some (seqObj "list" vs.toArray n)) (hv : IntsAre vs ns) (hk : ks.length = ns.length) (hZ : ns.length ≤ sizeLine) (hu : A.units < cLine)
    (turn : ∀ (i : Nat) (m k : Int) (t : Tok) (H' : Hp) (s' : Shared), ns[i]? = some m → ks[i]? = some k → Inv X pins sg H' s' → P H' → s'.heap.get? q = some oq → wpAny (model X.prog X.w) A (call f [.int m t]) (fun u s'' => CE X.stack X.prog X.w H' s' (fun v H'' => v = .int k ∧ P H'') u s'') (fun _ _ => False) s')
    (h : ∀ (H' : Hp) (out : List Int) (s' : Shared), out.Perm ns → P H' → H' a = none → Inv X pins sg (upd H' a (.lst (out.map V.int))) s' → R (.done (.ret .none)) s') :
    wpAny (model X.prog X.w) A (ksk_tree a f false) R E s := by
  have ha : a < s.heap.objs.size := Heap.lt_size ho
  have hlen := hv.length
  obtain ⟨e1, ho1⟩ : ∃ e1, (s.heap.update a (Obj.mapSeq fun _ => (#[] : Array Value))).get? a = some (seqObj "list" #[] e1) := ⟨_, get?_update_seq ho fun _ => #[]⟩
  have sb1 := Heap.SameBut.update s.heap a (Obj.mapSeq fun _ => (#[] : Array Value))
  unfold ksk_tree
  refine wpAny_bind (listItems_at ho rfl ?_)
  refine wpAny_bind (listUpdate_at ho rfl ?_ (by rw [List.size_toArray, hlen]; exact hZ) (Nat.zero_le _))
  refine wpAny_bind (seqEpoch_at ho1 rfl ?_)
  refine wpAny_bind (wpAny_newTuple ?_ (by show vs.length ≤ _; rw [hlen]; exact hZ))
  refine wpAny_bind (wpAny_newList ?_ (Nat.zero_le _))
  refine wpAny_holding ?_
  have I1 : Inv X pins sg H { s with heap := s.heap.update a (Obj.mapSeq fun _ => (#[] : Array Value)) } := I.turned (t' := s.toks) (fun b o hb e => (sb1.2 b hb).trans e) fa.1 fa.2.1 fa.2.2.2.1 fa.2.2.2.2.1 fa.2.2.2.2.2
  have I2 : Inv X pins sg H { s with heap := (s.heap.update a (Obj.mapSeq fun _ => (#[] : Array Value))).push (seqObj "tuple" vs.toArray 0) } := I1.kept (t' := s.toks) fun b o e => Heap.get?_push_of_some _ e
  have I3 : Inv X pins sg H { s with heap := ((s.heap.update a (Obj.mapSeq fun _ => (#[] : Array Value))).push (seqObj "tuple" vs.toArray 0)).push (seqObj "list" #[] 0) } := I2.kept (t' := s.toks) fun b o e => Heap.get?_push_of_some _ e
  have fk : FpOk X pins H ((s.heap.update a (Obj.mapSeq fun _ => (#[] : Array Value))).push (seqObj "tuple" vs.toArray 0)).objs.size := I2.fpOk (Nat.le_refl _) (I2.hok.fresh (Nat.le_refl _))
  have hka : ((s.heap.update a (Obj.mapSeq fun _ => (#[] : Array Value))).push (seqObj "tuple" vs.toArray 0)).objs.size ≠ a := Nat.ne_of_gt (by rw [size_push', Heap.size_update]; exact Nat.lt_succ_of_lt ha)
  generalize hkS : ((s.heap.update a (Obj.mapSeq fun _ => (#[] : Array Value))).push (seqObj "tuple" vs.toArray 0)).objs.size = kS at fk hka ⊢
  have nk0 : (((s.heap.update a (Obj.mapSeq fun _ => (#[] : Array Value))).push (seqObj "tuple" vs.toArray 0)).push (seqObj "list" #[] 0)).get? kS = some (seqObj "list" #[] 0) := by rw [← hkS]; exact Heap.get?_push_size _ rfl
  have na0 : (((s.heap.update a (Obj.mapSeq fun _ => (#[] : Array Value))).push (seqObj "tuple" vs.toArray 0)).push (seqObj "list" #[] 0)).get? a = some (seqObj "list" #[] e1) := Heap.get?_push_of_some _ (Heap.get?_push_of_some _ ho1)
  have qk : q ≠ kS := Nat.ne_of_lt (by rw [← hkS, size_push', Heap.size_update]; exact Nat.lt_succ_of_lt (Heap.lt_size hq))
  have q0 : (((s.heap.update a (Obj.mapSeq fun _ => (#[] : Array Value))).push (seqObj "tuple" vs.toArray 0)).push (seqObj "list" #[] 0)).get? q = some oq := Heap.get?_push_of_some _ (Heap.get?_push_of_some _ ((sb1.2 q qa).trans hq))
  unfold ksk_rest
  refine wpAny_bind (wpAny_rule ?_)
  first
    | rw [List.forIn_toArray]
    | (rw [← Array.forIn_toList]; simp only [List.toList_toArray])
    | rw [← Array.forIn_toList]
  refine wpAny_bind (ksk_fold (fun i s' => ∃ H' kA e, Inv X pins sg H' s' ∧ P H' ∧ (H' q = none ∧ s'.heap.get? q = some oq) ∧ H' a = none ∧ H' kS = none ∧ s'.heap.get? kS = some (seqObj "list" kA e) ∧ s'.heap.get? a = some (seqObj "list" #[] e1) ∧ IntsAre kA.toList (ks.take i)) vs 0 _
    ⟨H, #[], 0, I3, hP, ⟨nq, q0⟩, fa.1, fk.1, nk0, na0, by rw [List.take_zero]; exact .nil⟩ ?step ?done)
  case step =>
    rintro j y s' hx ⟨H', kA, e, J, hP', ⟨nq', hq'⟩, ha', hk', nk', na', hks⟩
    simp only [Nat.zero_add] at hks ⊢
    have hjl : j < vs.length := (List.getElem?_eq_some_iff.mp hx).1
    have hz : kA.size ≤ ks.length := by
      have h1 := hks.length
      rw [Array.length_toList, List.length_take] at h1
      omega
    obtain ⟨m, t, hm, ey⟩ : ∃ m t, ns[j]? = some m ∧ y = .int m t := by
      have : ∀ {vs : List Value} {ns : List Int} {j : Nat} {y : Value}, IntsAre vs ns → vs[j]? = some y → ∃ m t, ns[j]? = some m ∧ y = .int m t := by
        intro vs ns j y hI
        induction hI generalizing j with
        | nil => intro e; simp at e
        | cons n t hI ih =>
          intro e
          cases j with
          | zero => simp at e; exact ⟨n, t, rfl, e.symm⟩
          | succ j => simpa using ih (by simpa using e)
      exact this hv hx
    subst ey
    obtain ⟨k, hkj⟩ : ∃ k, ks[j]? = some k := ⟨_, List.getElem?_eq_getElem (by omega)⟩
    have fa' := fpOk_mono fa ha'
    have fk' := fpOk_mono fk hk'
    refine wpAny_bind (wpAny_attempt (wpAny_mono (turn j m k t H' s' hm hkj J hP' hq') (fun v s'' he => ?_) fun _ _ hF => hF.elim))
    obtain ⟨vv, H2, os2, bare2, un2, hok2, rv, ev, hP2⟩ := he
    have J2 : Inv X pins sg H2 s'' := J.call' os2 un2 hok2 bare2 (fun b z => absurd z (by simp))
    subst ev
    obtain ⟨t2, ev2⟩ := rv
    subst ev2
    try dsimp only
    have nk2 : s''.heap.get? kS = some (seqObj "list" kA e) := un2.keep kS _ nk' hk' (fp_stack J fk') (by simp)
    have na2 : s''.heap.get? a = some (seqObj "list" #[] e1) := un2.keep a _ na' ha' (fp_stack J fa') (by simp)
    have sb := Heap.SameBut.update s''.heap kS (Obj.mapSeq (·.push (Value.int k t2)))
    obtain ⟨c2, hc2⟩ : ∃ c2, (s''.heap.update kS (Obj.mapSeq (·.push (Value.int k t2)))).get? kS = some (seqObj "list" (kA.push (Value.int k t2)) c2) := ⟨_, get?_update_seq nk2 (·.push (Value.int k t2))⟩
    refine wpAny_bind (listUpdate_at nk2 rfl ?_ (by omega) (by rw [Array.size_push]; omega))
    have k2 : H2 kS = none := un2.free kS _ nk' hk' (by simp)
    have a2 : H2 a = none := un2.free a _ na' ha' (by simp)
    have fk2 := fpOk_mono fk k2
    have J3 : Inv X pins sg H2 { s'' with heap := s''.heap.update kS (Obj.mapSeq (·.push (Value.int k t2))) } := J2.turned (t' := s''.toks) (fun b o hb e => (sb.2 b hb).trans e) fk2.1 fk2.2.1 fk2.2.2.2.1 fk2.2.2.2.2.1 fk2.2.2.2.2.2
    refine wpAny_pure ⟨rfl, H2, kA.push (Value.int k t2), c2, J3, hP2, ⟨un2.free q _ hq' nq' (by simp), (sb.2 q qk).trans (un2.keep q _ hq' nq' fq (by simp))⟩, a2, k2, hc2, (sb.2 a hka.symm).trans na2, ?_⟩
    have ek : ks.take (j + 1) = ks.take j ++ [k] := by rw [List.take_add_one, hkj]; simp
    have ea : (kA.push (Value.int k t2)).toList = kA.toList ++ [Value.int k t2] := by simp
    rw [ea, ek]
    exact IntsAre.append hks (.cons k t2 .nil)
  case done =>
    rintro s' ⟨H', kA, e, J, hP', _, ha', hk', nk', na', hks⟩
    have e3 : ks.take (0 + vs.length) = ks := List.take_of_length_le (by omega)
    rw [e3] at hks
    have hsz : kA.size = vs.length := by
      have h1 := hks.length
      rw [Array.length_toList] at h1
      omega
    have reads : EachIs (fun v d => ∃ as, Reads s'.heap v d as) kA.toList (ks.map PyData.int) := by
      have : ∀ {vs : List Value} {ns : List Int}, IntsAre vs ns → EachIs (fun v d => ∃ as, Reads s'.heap v d as) vs (ns.map PyData.int) := by
        intro vs ns hI
        induction hI with
        | nil => exact EachIs.nil
        | cons n t hI ih => exact EachIs.cons ⟨_, Reads.int n t⟩ ih
      exact this hks
    try dsimp only
    refine wpAny_bind (listItems_at nk' rfl ?_)
    have kp : KeepsBut a (hideAll s'.heap [kS]) s'.heap := fun b o hb q => of_hideAll [kS] q
    refine keyH_end (κ := dataKind s'.heap (ks.map PyData.int)) (h₁ := hideAll s'.heap [kS]) kp (hideAll_none [kS] (by simp)) nk' na' hka (SortsAt.data (s := s') reads (alikeInts ks) (sortInts ks) (fun d hd => ?_)) hsz (by omega) fun h3 tk3 c k3 n3 => ?_
    · obtain ⟨n, _, e⟩ := List.mem_map.mp hd
      rw [← e]
      exact hu
    · have zk : ∀ (ns ks : List Int), ks.length = ns.length → (ns.zip ks).map (fun p : Int × Int => PyData.int p.2) = ks.map PyData.int := by
        intro ns
        induction ns with
        | nil => intro ks hl; cases ks with
          | nil => rfl
          | cons => simp at hl
        | cons n ns ih => intro ks hl; cases ks with
          | nil => simp at hl
          | cons k ks => simp only [List.zip_cons_cons, List.map_cons]; rw [ih ks (by simpa using hl)]
      have zf : ∀ (ns ks : List Int), ks.length = ns.length → (ns.zip ks).map Prod.fst = ns := by
        intro ns
        induction ns with
        | nil => intro ks hl; rfl
        | cons n ns ih => intro ks hl; cases ks with
          | nil => simp at hl
          | cons k ks => simp only [List.zip_cons_cons, List.map_cons]; rw [ih ks (by simpa using hl)]
      have hR : EachIs (fun v (p : Int × Int) => ∃ t, v = Value.int p.1 t) vs (ns.zip ks) := by
        have : ∀ {vs : List Value} {ns : List Int}, IntsAre vs ns → ∀ ks : List Int, ks.length = ns.length → EachIs (fun v (p : Int × Int) => ∃ t, v = Value.int p.1 t) vs (ns.zip ks) := by
          intro vs ns hI
          induction hI with
          | nil => intro ks _; exact EachIs.nil
          | cons n t hI ih => intro ks hl; cases ks with
            | nil => simp at hl
            | cons k ks => exact EachIs.cons ⟨t, rfl⟩ (ih ks (by simpa using hl))
        exact this hv ks hk
      have ko : KeyedOut false ((ns.zip ks).map fun p : Int × Int => PyData.int p.2) vs (sortVals (dataKind s'.heap (ks.map PyData.int)) false kA.toList vs) := by
        rw [zk ns ks hk]
        exact ⟨s'.heap, kA.toList, alikeInts ks, rfl, reads⟩
      have eo := keyedOut_each (fun p : Int × Int => PyData.int p.2) ko hR
      generalize hout : sortVals (dataKind s'.heap (ks.map PyData.int)) false kA.toList vs = out at eo n3
      have pm : ((ns.zip ks).mergeSort (dataLe false fun p : Int × Int => PyData.int p.2)).Perm (ns.zip ks) := List.mergeSort_perm _ _
      generalize (ns.zip ks).mergeSort (dataLe false fun p : Int × Int => PyData.int p.2) = bs at eo pm
      have vals : Vals ((bs.map Prod.fst).map V.int) out := by
        have : ∀ {us : List Value} {bs : List (Int × Int)}, EachIs (fun v (p : Int × Int) => ∃ t, v = Value.int p.1 t) us bs → Vals ((bs.map Prod.fst).map V.int) us := by
          intro us bs hE
          induction hE with
          | nil => exact .nil
          | cons h _ ih => exact .cons h ih
        exact this eo
      have pn : (bs.map Prod.fst).Perm ns := by
        have := pm.map Prod.fst
        rwa [zf ns ks hk] at this
      have lo : (bs.map Prod.fst).length = ns.length := pn.length_eq
      refine h H' (bs.map Prod.fst) _ pn hP' ha' ?_
      have kk : ∀ b o, b ≠ a → b ≠ kS → s'.heap.get? b = some o → h3.get? b = some o := fun b o h1 h2 q => k3 b o h1 (hideAll_get [kS] q (by simpa using h2))
      have fa' := fpOk_mono fa ha'
      have fk' := fpOk_mono fk hk'
      have nH : ∀ b u, H' b = some u → b ≠ a := fun b u e z => by rw [z, ha'] at e; cases e
      have nK : ∀ b u, H' b = some u → b ≠ kS := fun b u e z => by rw [z, hk'] at e; cases e
      refine J.step (g' := s'.gens) (d' := s'.drawn) (t' := tk3) (ch := [a, kS]) (fun b hb => ?_) (fun b o _ _ hc e _ => kk b o (fun z => hc (by simp [z])) (fun z => hc (by simp [z])) e) (fun b o _ _ hc e _ => ⟨o.slots, kk b o (fun z => hc (by simp [z])) (fun z => hc (by simp [z])) e⟩)
        (fun b o hc e n => by rw [upd_ne (fun z => hc (by simp [z]))]; exact n) (fun b o hc e => ⟨o, kk b o (fun z => hc (by simp [z])) (fun z => hc (by simp [z])) e⟩) (fun b xs e => by rw [upd_ne (nH b _ e)]; exact e) (fun b o u e => by rw [upd_ne (nH b _ e)]; exact e) (fun b ps e => ⟨#[], by rw [upd_ne (nH b _ e), e]; simp⟩) (fun m hm => ?_) (fun b u q => ?_) J.bare
      · have eb : b = a ∨ b = kS := by simpa using hb
        rcases eb with e | e
        · rw [e]; exact ⟨fa'.2.2.2.1, fa'.2.1, fa'.2.2.2.2.1, fa'.2.2.2.2.2⟩
        · rw [e]; exact ⟨fk'.2.2.2.1, fk'.2.1, fk'.2.2.2.2.1, fk'.2.2.2.2.2⟩
      · obtain ⟨o, es, ep, ho', rr⟩ := hm
        exact ⟨o, es, ep, kk _ o (Ne.symm fa'.2.1) (Ne.symm fk'.2.1) ho', rr⟩
      · by_cases hb : b = a
        · subst hb
          rw [upd_same] at q
          cases q
          exact ⟨by rw [List.length_map, lo]; exact hZ, out, c, vals, n3⟩
        · rw [upd_ne hb] at q
          refine (J.hok b u q).stay (fun c' w' hc q2 => kk c' w' ?_ ?_ q2) (fun c' q2 => by rw [upd_ne (nH c' _ q2)]; exact q2) fun c' xs q2 => by rw [upd_ne (nH c' _ q2)]; exact q2
          · rcases hc with z | z
            · rw [z]; exact hb
            · exact nH c' _ z
          · rcases hc with z | z
            · rw [z]; exact nK b u q
            · exact nK c' _ z

/-! ### sorted(range(e), key=lambda x: body) -/
def rngI (n : Int) : List Int := (List.range n.toNat).map fun (i : Nat) => (i : Int)
theorem intsRng {n : Int} {acc : Array Value} (h : ItemsOf (fun i v => ∃ t, v = .int (0 + i * 1) t) acc (n - 0).toNat) : IntsAre acc.toList (rngI n) := by
  have hv := vals_rg h
  have e : rgV 0 n = (rngI n).map V.int := by
    unfold rgV rngI
    rw [List.map_map]
    have e0 : (n - 0).toNat = n.toNat := by omega
    rw [e0]
    apply List.map_congr_left
    intro i _
    show V.int (0 + (i : Int)) = V.int i
    rw [Int.zero_add]
  rw [e] at hv
  exact intsAre_of hv
def tSortK (T : Tb) (ta : TE) (j : Nat) (tb : TE) : TE := fun sg H Q => ta sg H fun x H1 => ∃ n : Int, x = .int n ∧ RgOk 0 n ∧ Tabs T H1 ∧ ∀ H2, ExtN H1 H2 → Tabs T H2 → ∃ (ks : List Int) (P : Hp → Prop), ks.length = n.toNat ∧ P H2 ∧ (∀ H3, P H3 → ExtN H2 H3) ∧
  (∀ (i : Nat) (k : Int) H3, ks[i]? = some k → P H3 → tb (sg.set j (some (.int (i : Nat)))) H3 (fun v H4 => v = .int k ∧ P H4)) ∧ ∀ H5 p (out : List Int), P H5 → H5 p = none → out.Perm (rngI n) → Q (.ref p) (upd H5 p (.lst (out.map V.int)))
theorem Room.in1' {k : Nat} {A : Around} (r : Room (k + 1) A) : Room k A.in1 := r.in1
theorem pe_sortK {T : Tb} {e body : Expr} {ta tb : TE} {params : Arguments} {scope : Scope} {x : Str} {j k : Nat} {c P : Addr} {p p2 pos pos2 lpos kpos : Pos} (hc : X.calm = true) (hg : Gl X "sorted") (hm : X.mg "sorted" = none) (hgR : Gl X "range") (hmR : X.mg "range" = none) (ha : PE X e ta)
    (TB : TabB X.base X.mg c P) (hcode : X.env.code = .ref c) (hmT : (P, X.env.qual ++ "<lambda>") ∈ T) (hu : ∀ p ∈ T, p.1 = P → p.2 = X.env.qual ++ "<lambda>") (hr : Room (k + 3) X.A) (L : LamS1 X.env.scope scope x) (hN : X.N.Nodup) (hj : X.N[j]? = some x) (hdef : defaultsOf params X.env = ([], []))
    (hbind : ∀ (q : Str) (cl : List (Str × Addr)) (pm cv ctv u : Value), bindArgs (PySem.W.kla_fn "<lambda>" q params body scope cl pm cv ctv) ⟨[u], []⟩ = pure [(x, u)])
    (hbody : ∀ (A : Around) (outer : List Env) (s : Shared) (H : Hp) (f c' : Addr), Room k (A.deeper (lamEnv X scope s.heap.objs.size f c')) → PE (lamCx X A outer s H (fun _ _ _ => False) scope f c') body tb)
    (na : starEach [e] X.env = (false, eval e X.env) :: starEach [] X.env := by rfl) (hn : ("sorted" : Str) ≠ "__name__" := by decide) (hdb : (("sorted" : Str) == ("__debug__" : Str)) = false := by decide)
    (na2 : starEach [.Call (.Name "range" p2) [e] [] pos2] X.env = (false, eval (.Call (.Name "range" p2) [e] [] pos2) X.env) :: starEach [] X.env := by rfl) :
    PE X (.Call (.Name "sorted" p) [.Call (.Name "range" p2) [e] [] pos2] [⟨some "key", .Lambda params body scope lpos, kpos⟩] pos) (tSortK T ta j tb) := by
  refine ⟨fun pins s sg H Q I h => ?_⟩
  refine wpAny_Call_Name_kw (ld_blt (u := .builtin "sorted") I hg hm (by decide +kernel) ?_ hn hdb)
  refine PyProof.Rows.callWith_kw (args_cons (Call_ (ld_blt I hgR hmR boot_range (PyProof.Rows.callWith_type1 (one_arg ha I h (fun v s1 y H1 I1 r1 q1 => ?_) na) na))) na2) (by rfl) (by rfl) (by rfl) (by rfl)
  obtain ⟨n, rfl, rg, hT, q⟩ := q1
  obtain ⟨t, rfl⟩ := r1
  refine call_range_1 (args_nil ?_)
  have fr : FpOk X pins H1 s1.heap.objs.size := I1.fpOk (Nat.le_refl _) (I1.hok.fresh (Nat.le_refl _))
  have I2 : Inv X pins sg H1 { s1 with heap := s1.heap.push { cls := .type "range", data := .fields #[.int 0 s1.toks, .int n t, .int 1 (s1.toks + 1)] }, toks := s1.toks + 1 + 1 } := I1.kept fun b o e => Heap.get?_push_of_some _ e
  have or : (s1.heap.push { cls := .type "range", data := .fields #[.int 0 s1.toks, .int n t, .int 1 (s1.toks + 1)] }).get? s1.heap.objs.size = some { cls := .type "range", data := .fields #[.int 0 s1.toks, .int n t, .int 1 (s1.toks + 1)] } := Heap.get?_push_size _ rfl
  have I3 := I2.pinned (fp := [s1.heap.objs.size]) (fun b hb => by
    have e : b = s1.heap.objs.size := by simpa using hb
    rw [e]
    exact fr) (fun b hb => by
    have e : b = s1.heap.objs.size := by simpa using hb
    rw [e]
    exact ⟨_, or, fun v z => by cases z⟩)
  show wpAny _ _ (evalAll ((do let v ← eval (.Lambda params body scope lpos) X.env; standAt pos; pure v) :: [])) _ _ _
  refine wpAny_evalAll_cons (wpAny_bind (lam_make2 I3 TB hcode hmT hu hT hdef (L.has I.ok) fun f c' pm ctv H2 s2 J ext T2 hf hfn hfr hco => wpAny_bind (wpAny_standAt (wpAny_pure (wpAny_evalAll_nil ?_)))))
  obtain ⟨ks, P', hkl, hP2, hPe, hkeys, hq⟩ := q H2 ext T2
  have hr2 : s2.heap.get? s1.heap.objs.size = some { cls := .type "range", data := .fields #[.int 0 s1.toks, .int n t, .int 1 (s1.toks + 1)] } :=
    (J.pin (s1.heap.objs.size, _) (List.mem_append_right _ (List.mem_append_right _ (mem_pinsAt (by simp) or)))).1
  have J2 : Inv X pins sg H2 s2 := J.unpinned
  show wpAny (model X.prog X.w) X.A (call (.builtin "sorted") [.ref s1.heap.objs.size] [(Str.ofString "key", .ref f)]) _ _ s2
  refine call_function_entry_kw kind_sorted plain_sorted entry_sorted (ksk_s1 _ _) ?_
  unfold Builtin.«sorted»
  refine wpAny_bind (m := checkCount "sorted" 1 1 _) (wpAny_pure ?_)
  obtain ⟨b1, b2, b3, b4, b5⟩ := rg
  refine wpAny_bind (collect_range (n := (n - 0).toNat) (show X.A.in1.handled = none from J2.ok.hd hc) (show IsRange s2.heap s1.heap.objs.size 0 n 1 _ _ _ from hr2) (small_one b1 b2 b3 b4) (rangeSize_nat 0 n) b5 fun h' tk acc hk hi => ?_)
  have J3 : Inv X pins sg H2 { s2 with heap := h', toks := tk } := J2.kept hk
  have hI := intsRng hi
  have hlen : acc.toList.length = n.toNat := by
    have e := hI.length
    rw [e]
    unfold rngI
    simp
  refine wpAny_bind (wpAny_newList ?_ (by rw [hlen, sizeLine_eq]; omega))
  have J4 : Inv X pins sg H2 { s2 with heap := h'.push { cls := .type "list", data := .seq acc.toList.toArray }, toks := tk } := J3.kept (t' := tk) fun b o e => Heap.get?_push_of_some _ e
  have fa : FpOk X pins H2 h'.objs.size := J3.fpOk (Nat.le_refl _) (J3.hok.fresh (Nat.le_refl _))
  have oa : (h'.push { cls := .type "list", data := .seq acc.toList.toArray }).get? h'.objs.size = some (seqObj "list" acc.toList.toArray 0) := Heap.get?_push_size _ rfl
  have hf4 : (h'.push { cls := .type "list", data := .seq acc.toList.toArray }).get? f = some (PySem.W.kla_obj "<lambda>" (X.env.qual ++ "<lambda>") params body scope (cloFrom X.env.cells scope.names []) pm c' ctv) := Heap.get?_push_of_some _ (hk _ _ hf)
  refine wpAny_bind (wpAny_holding (wpAny_call_entry_kw slot_list_sort ⟨_, oa, rfl⟩ entry_list_sort ?body (ksk_l1 _ _)))
  case body =>
    show wpAny (model X.prog X.w) X.A.in1.in1 (ksk_tree h'.objs.size (.ref f) false) _ _ _
    refine sortK_tree (P := P') (ks := ks) (q := f) J4 fa hP2 hf4 hfn hfr (Nat.ne_of_lt (Heap.lt_size (hk _ _ hf))) oa hI (by rw [hkl]; unfold rngI; simp) (by rw [← hI.length, hlen, sizeLine_eq]; omega) ?units (fun i m kk t' H' s' hm hkk J' hP' hf' => ?turn) (fun H' out s' pm' hP' ha' J' => ?fin)
    case units =>
      have := hr.in1.in1.units0
      exact this
    case turn =>
      have hm' : m = (i : Nat) := by
        unfold rngI at hm
        rw [List.getElem?_map] at hm
        cases hi' : (List.range n.toNat)[i]? with
        | none => rw [hi'] at hm; cases hm
        | some z =>
          rw [hi'] at hm
          rw [List.getElem?_range] at hi'
          · cases hi'
            exact (Option.some.inj hm).symm
          · have := (List.getElem?_eq_some_iff.mp hi').1
            simpa using this
      subst hm'
      exact lam_call1 (v := .int (i : Nat)) J' L hN hj hf' (hbind _ _ _ _ _ _) (hPe H' hP' _ _ hco codeO_ne) rfl hr.in1.in1 ⟨t', rfl⟩ (fun A outer s H hr' => hbody A outer s H f c' hr') (hkeys i kk H' hkk hP')
    case fin =>
      exact ⟨_, rfl, wpAny_pure ⟨_, rfl, ⟨.ref h'.objs.size, _, J', rfl, hq H' _ out hP' ha' pm'⟩⟩⟩
/-- over data: some arrangement of 0 .. n - 1 -/
def dSortK (ta : DE) (j : Nat) (tb : DE) : DA := fun r Q E => ta r (fun d => ∃ n, d = .int n ∧ RgOk 0 n ∧ ∃ ks : List Int, ks.length = n.toNat ∧
  (∀ (i : Nat) (k : Int), ks[i]? = some k → tb (r.set j (.dat (.int (i : Nat)))) (fun y => y = .int k) (fun _ => False)) ∧ ∀ out : List Int, out.Perm (rngI n) → Q (out.map .int)) E
theorem HR.ext' {T : Tb} {H0 G0 H1 G1 H2 : Hp} (h : HR T H0 G0 H1 G1) (e : ExtN H1 H2) (t : Tabs T H2) : HR T H1 G1 H2 G1 := ⟨ext_of_same h.sub h.nt e, h.nt, t, e, Same.refl _, fun a z => .inl z⟩
theorem fn_sortK {T : Tb} {E : XK} {e body : Expr} {ta tb : DE} {params : Arguments} {scope : Scope} {x : Str} {j k : Nat} {c P : Addr} {p p2 pos pos2 lpos kpos : Pos} (hc : X.calm = true) (hg : Gl X "sorted") (hm : X.mg "sorted" = none) (hgR : Gl X "range") (hmR : X.mg "range" = none) (ha : FE X T E e ta)
    (TB : TabB X.base X.mg c P) (hcode : X.env.code = .ref c) (hmT : (P, X.env.qual ++ "<lambda>") ∈ T) (hu : ∀ p ∈ T, p.1 = P → p.2 = X.env.qual ++ "<lambda>") (hr : Room (k + 3) X.A) (L : LamS1 X.env.scope scope x) (hN : X.N.Nodup) (hj : X.N[j]? = some x) (hdef : defaultsOf params X.env = ([], []))
    (hbind : ∀ (q : Str) (cl : List (Str × Addr)) (pm cv ctv u : Value), bindArgs (PySem.W.kla_fn "<lambda>" q params body scope cl pm cv ctv) ⟨[u], []⟩ = pure [(x, u)])
    (hbody : ∀ (A : Around) (outer : List Env) (s : Shared) (H : Hp) (f c' : Addr), Room k (A.deeper (lamEnv X scope s.heap.objs.size f c')) → FE (lamCx X A outer s H (fun _ _ _ => False) scope f c') T (fun _ _ _ => False) body tb)
    (na : starEach [e] X.env = (false, eval e X.env) :: starEach [] X.env := by rfl)
    (na2 : starEach [.Call (.Name "range" p2) [e] [] pos2] X.env = (false, eval (.Call (.Name "range" p2) [e] [] pos2) X.env) :: starEach [] X.env := by rfl) :
    FN X T E (.Call (.Name "sorted" p) [.Call (.Name "range" p2) [e] [] pos2] [⟨some "key", .Lambda params body scope lpos, kpos⟩] pos) (dSortK ta j tb) := by
  refine FN.mk' (pe_sortK (tb := lf X.K T (fun _ _ _ => False) tb) hc hg hm hgR hmR ha.pe TB hcode hmT hu hr L hN hj hdef hbind (fun A outer s H f c' hr' => (hbody A outer s H f c' hr').pe) na (by decide) (by decide) na2) fun sg H Q ⟨H0, G0, r, G, Qd, Ed, h, er, w, k, x⟩ => ?_
  refine ⟨H0, G0, r, G, _, Ed, h, er, w, fun d v H1 G1 h1 p1 ⟨n, e, rg, ks, hl, hk, hq⟩ => ?_, x⟩
  subst e
  cases p1
  refine ⟨n, rfl, rg, h1.tabs, fun H2 ext t2 => ?_⟩
  have h2 := h1.ext' ext t2
  refine ⟨ks, fun H3 => ∃ G3, HR T H2 G1 H3 G3, hl, ⟨G1, h2.refl⟩, fun H3 ⟨G3, z⟩ => z.ext, fun i kk H3 hkk ⟨G3, z⟩ => ?_, fun H5 p out ⟨G5, z⟩ hp pm => ?_⟩
  · have z3 := (h1.trans h2).trans z
    exact ⟨H0, G0, r.set j (.dat (.int (i : Nat))), G3, _, _, h.trans z3, (er.grow z3).set j (.int _), hk i kk hkk, fun d v H' G' z' p' q => by
      subst q
      cases p'
      exact ⟨rfl, G', z.trans z'⟩, fun _ _ _ _ q => q.elim⟩
  · have z5 := (h1.trans h2).trans z
    have gp : G5 p = none := by
      cases q : G5 p with
      | none => rfl
      | some u => rw [z5.sub p u q] at hp; cases hp
    exact k _ p _ _ G5 (z5.trans (z5.laidO hp)) ((NT.none hp).back z5.ext) upd_same gp (DpAll.ints out) (hq out pm)
end
end Fd
end
section
set_option Elab.async false
set_option linter.all false
set_option maxRecDepth 100000
set_option autoImplicit false
set_option maxHeartbeats 2000000
/-! Fd4: zip, minus, defs by name. -/
namespace Fd
open PySem PySem.Spec PyProof.Rows L2 LamX RZ
section
variable {X : Cx} {K : PySem.W.Frag} {T : Tb} {E : XK} {a b e : Expr} {ta tb : DE} {pos : Pos}
@[simp] def dNeg (t : DE) : DE := fun r Q E => t r (fun d => ∃ i, d = .int i ∧ Q (.int (-i))) E
theorem fe_neg (ha : FE X T E a ta) : FE X T E (.UnaryOp .USub a pos) (dNeg ta) := by
  refine FE.mk' (pe_un un_neg ha.pe) fun sg H Q ⟨H0, G0, r, G, Qd, Ed, h, er, w, k, x⟩ => ?_
  refine ⟨H0, G0, r, G, _, Ed, h, er, w, fun d v H1 G1 h1 p1 ⟨i, e, q⟩ => ?_, x⟩
  subst e
  cases p1
  exact ⟨i, rfl, k _ _ H1 G1 h1 (.int _) q⟩
/-! ### zip -/
def zipD (xs ys : List PyData) : List PyData := (xs.zip ys).map fun p => .tuple [p.1, p.2]
theorem zipD_length (xs ys : List PyData) : (zipD xs ys).length = min xs.length ys.length := by simp [zipD]
theorem walkD_zip {a b : Addr} {xs ys : List V} {ds es : List PyData} {G1 : Hp} (ha : DpAll K G1 xs ds) (hb : DpAll K G1 ys es) : WalkD K T (Itz K a b) (zipD ds es) G1 (fun H => SqL K H a xs ∧ SqL K H b ys) := by
  have l1 := ha.len
  have l2 := hb.len
  have lz := zipD_length ds es
  refine ⟨fun i H hi q => ⟨xs, ys, xs[i]'(by omega), ys[i]'(by omega), q.1, q.2, by simp [show i < xs.length by omega], by simp [show i < ys.length by omega]⟩, fun H q => ⟨xs, ys, q.1, q.2, by omega⟩, fun i H G v H' hi q hr sm y => ?_⟩
  obtain ⟨t, x, y, e1, e2, e3, e4, e5⟩ := y
  subst e1 e3
  obtain ⟨d1, h1, h2⟩ := ha.at (e4 xs q.1)
  obtain ⟨d2, h3, h4⟩ := hb.at (e5 ys q.2)
  refine ⟨_, .tuple [d1, d2], ?_, hr.laidT e2, .tup (SqT.of upd_same) (.cons (h2.up (sm.trans (hr.laidT e2).g0)) (.cons (h4.up (sm.trans (hr.laidT e2).g0)) .nil))⟩
  unfold zipD
  rw [List.getElem?_map, (List.getElem?_zip_eq_some (z := (d1, d2))).mpr ⟨h1, h3⟩]
  rfl
theorem walkD_zipT {a b : Addr} {xs ys : List V} {ds es : List PyData} {G1 : Hp} (ha : DpAll K G1 xs ds) (hb : DpAll K G1 ys es) : WalkD K T (ItzT K a b) (zipD ds es) G1 (fun H => SqT K H a xs ∧ SqT K H b ys) := by
  have l1 := ha.len
  have l2 := hb.len
  have lz := zipD_length ds es
  refine ⟨fun i H hi q => ⟨xs, ys, xs[i]'(by omega), ys[i]'(by omega), q.1, q.2, by simp [show i < xs.length by omega], by simp [show i < ys.length by omega]⟩, fun H q => ⟨xs, ys, q.1, q.2, by omega⟩, fun i H G v H' hi q hr sm y => ?_⟩
  obtain ⟨t, x, y, e1, e2, e3, e4, e5⟩ := y
  subst e1 e3
  obtain ⟨d1, h1, h2⟩ := ha.at (e4 xs q.1)
  obtain ⟨d2, h3, h4⟩ := hb.at (e5 ys q.2)
  refine ⟨_, .tuple [d1, d2], ?_, hr.laidT e2, .tup (SqT.of upd_same) (.cons (h2.up (sm.trans (hr.laidT e2).g0)) (.cons (h4.up (sm.trans (hr.laidT e2).g0)) .nil))⟩
  unfold zipD
  rw [List.getElem?_map, (List.getElem?_zip_eq_some (z := (d1, d2))).mpr ⟨h1, h3⟩]
  rfl
def dZp : List PyData → (List PyData → Prop) → Prop
  | [.list xs, .list ys], Q => Q (zipD xs ys)
  | [.tuple xs, .tuple ys], Q => Q (zipD xs ys)
  | _, _ => False
@[simp] def dZip (t : DA) : DA := fun r Q E => t r (fun ds => dZp ds Q) E
theorem fi_zip {es : DA} {p tpos : Pos} {elts : List Expr} {kk : Nat} (hg : Gl X "zip") (hm : X.mg "zip" = none) (ha : FA X T E [a, b] es)
    (hs : starEach [a, b] X.env = (false, eval a X.env) :: starEach [b] X.env := by rfl) (hpl : (backTo pos (starEach [b] X.env)).any (·.1) = false := by rfl) :
    FI X T E true (.Tuple elts kk tpos) (.Call (.Name "zip" p) [a, b] [] pos) (dZip es) := by
  refine FI.mk' (pi_zipA hg hm ha.pa hs hpl) fun sg H R ⟨H0, G0, r, G, Qd, Ed, h, er, w, k, x⟩ => ?_
  refine ⟨H0, G0, r, G, _, Ed, h, er, w, fun ds vs H' G' z p q => ?_, x⟩
  unfold dZp at q
  split at q
  · rename_i xs ys
    cases p with
    | cons p1 p2 => cases p2 with
      | cons p2 p3 =>
        cases p3
        cases p1 with
        | lst s1 a1 => cases p2 with
          | lst s2 a2 => exact ⟨_, _, _, _, rfl, .inl ⟨z.sub.seq s1, z.sub.seq s2, k _ _ _ H' G' z (walkD_zip a1 a2) (fun H2 e => ⟨(ext_of_same z.sub z.nt e).seq s1, (ext_of_same z.sub z.nt e).seq s2⟩) (fun _ H2 s => ⟨s.seq s1, s.seq s2⟩) q⟩⟩
  · rename_i xs ys
    cases p with
    | cons p1 p2 => cases p2 with
      | cons p2 p3 =>
        cases p3
        cases p1 with
        | tup s1 a1 => cases p2 with
          | tup s2 a2 => exact ⟨_, _, _, _, rfl, .inr ⟨sqT_mono z.sub s1, sqT_mono z.sub s2, k _ _ _ H' G' z (walkD_zipT a1 a2) (fun H2 e => ⟨sqT_mono (ext_of_same z.sub z.nt e) s1, sqT_mono (ext_of_same z.sub z.nt e) s2⟩) (fun _ H2 s => ⟨sqT_mono s s1, sqT_mono s s2⟩) q⟩⟩
  · exact q.elim
end

/-! ### defs by name -/
/-- the def x, as the module has it, keeps the contract ff at the level k -/
def Ok (P : Program) (w : World) (K : PySem.W.Frag) (mg : Str → Option Value) (base : Heap) (T : Tb) (k : Nat) (x : Str) (ps : List Str) (ff : List PyData → M PyData) : Prop :=
  ∃ f fd, FnOk P w K mg base CX0 k f fd ps (spF K T ff) ∧ mg x = some (.ref f) ∧ PySem.W.keepIn K (.ref f) = true ∧ Binds K fd ps [] ∧ ∃ oc od osl, K.lookup f = some ⟨oc, od, .func fd, osl⟩
section
variable {X : Cx} {T : Tb} {E : XK} {e : Expr} {es : List Expr} {pos : Pos}
theorem fe_def {j k : Nat} {x : Str} {ps : List Str} {p : Pos} {ff : List PyData → M PyData} {ts : DA} (F : Ok X.prog X.w X.K X.mg X.base T k x ps ff) (hr : Room j X.A) (hg : Gl X x) (ha : FA X T E (e :: es) ts) (hk : Nat.ble k j = true := by rfl) (hdb : (x == ("__debug__" : Str)) = false := by decide) (he : starEach (e :: es) X.env = (false, eval e X.env) :: starEach es X.env := by rfl)
    (hpl : (backTo pos (starEach es X.env)).any (·.1) = false := by rfl) : FE X T E (.Call (.Name x p) (e :: es) [] pos) (dCall ff ts) := by
  obtain ⟨f, fd, F, hm, hkp, hb, _⟩ := F
  exact fe_call F (hr.mono (Nat.le_of_ble_eq_true hk)) hg hm hkp hb passAny ha hdb he hpl
end
section
variable {P : Program} {w : World} {K : PySem.W.Frag} {mg : Str → Option Value} {base : Heap} {T : Tb}
theorem mkOk {x : Str} {st : Stmt} {f : Addr} {N ps : List Str} {k : Nat} {t : DS} {ff : List PyData → M PyData} (F : ∃ fd, FunD K x x (defArgs st) (defBody st) (defScope st) [] [] f fd) (hm : mg x = some (.ref f)) (S : FnScope N ps (defScope st))
    (hbind : ∀ (kV doc pm : Value) (an : Option Addr) (cdv ct : Value) (us : List Value), us.length = ps.length → bindArgs (PySem.W.fnOf x x (defArgs st) (defBody st) (defScope st) .none kV doc pm an cdv ct) ⟨us, []⟩ = pure (ps.zip us))
    (len : ∀ ds Q E, ff ds Q E → ds.length = ps.length)
    (hb : ∀ (cdv : Value) (A : Around) (outer : List Env) (s : Shared) (H : Hp) (E : XK), Room k (A.deeper (envOfC x (defScope st) s.heap.objs.size f cdv)) → FSs (cxOf CX0 P w K mg base N x (defScope st) f cdv A outer s H E).nox T E (defBody st) t)
    (ht : ∀ ds Q E, ff ds Q E → dFn t N ds Q E) : Ok P w K mg base T (k + 1) x ps ff := by
  obtain ⟨fd, F⟩ := F
  refine ⟨f, fd, fn_mk F S len hb ht, hm, F.kp, F.bindsN hbind, ?_⟩
  obtain ⟨oc, od, dV, kV, doc, pm, an, cdv, ct, osl, _, lk, _⟩ := F.ex
  exact ⟨oc, od, osl, lk⟩
end
end Fd
/-! ### defs that make lambdas; the end -/
namespace Fd
open PySem PySem.Spec PyProof.Rows L2 LamX RZ
/-- the table of the code object of the def x -/
structure CTb (K : PySem.W.Frag) (mg : Str → Option Value) (base : Heap) (T : Tb) (x : Str) : Prop where
  tb : TabB base mg (He.cT K (x, none)).1 (He.cT K (x, none)).2
  mem : ((He.cT K (x, none)).2, x ++ ".<locals>." ++ "<lambda>") ∈ T
  uniq : ∀ p ∈ T, p.1 = (He.cT K (x, none)).2 → p.2 = x ++ ".<locals>." ++ "<lambda>"
section
variable {P : Program} {w : World} {K : PySem.W.Frag} {mg : Str → Option Value} {base : Heap} {T : Tb}
theorem mkOkC {x : Str} {st : Stmt} {N ps : List Str} {k : Nat} {t : DS} {ff : List PyData → M PyData} (F : ∃ fd, FunD K x x (defArgs st) (defBody st) (defScope st) [] [] (He.ga K x) fd) (hm : mg x = some (.ref (He.ga K x))) (C : CTb K mg base T x) (S : FnScope N ps (defScope st))
    (hbind : ∀ (kV doc pm : Value) (an : Option Addr) (cdv ct : Value) (us : List Value), us.length = ps.length → bindArgs (PySem.W.fnOf x x (defArgs st) (defBody st) (defScope st) .none kV doc pm an cdv ct) ⟨us, []⟩ = pure (ps.zip us))
    (len : ∀ ds Q E, ff ds Q E → ds.length = ps.length)
    (hb : ∀ (c Pt : Addr) (A : Around) (outer : List Env) (s : Shared) (H : Hp) (E : XK), TabB base mg c Pt → (Pt, x ++ ".<locals>." ++ "<lambda>") ∈ T → (∀ p ∈ T, p.1 = Pt → p.2 = x ++ ".<locals>." ++ "<lambda>") → Room k (A.deeper (envOfC x (defScope st) s.heap.objs.size (He.ga K x) (.ref c))) →
      FSs (cxOf CX0 P w K mg base N x (defScope st) (He.ga K x) (.ref c) A outer s H E).nox T E (defBody st) t)
    (ht : ∀ ds Q E, ff ds Q E → dFn t N ds Q E) : Ok P w K mg base T (k + 1) x ps ff := by
  obtain ⟨fd, F⟩ := F
  refine ⟨He.ga K x, fd, ?_, hm, F.kp, F.bindsN hbind, ?_⟩
  rotate_left
  · obtain ⟨oc, od, dV, kV, doc, pm, an, cdv, ct, osl, _, lk, _⟩ := F.ex
    exact ⟨oc, od, osl, lk⟩
  obtain ⟨oc, od, dV, kV, doc, pm, an, cdv, ct, osl, rfl, lk, hcd, _, _⟩ := F.ex
  obtain ⟨c, rfl⟩ := He.codeIn_ref hcd
  have ec : He.codeOf K (x, none) = c := He.codeOf_eq lk rfl
  refine fn_of lk hcd S (fun vs H Q E ⟨ds, G, Qd, Ed, a, b, c, _⟩ => b.len.trans (len ds Qd Ed c)) fun A outer s H vs Q E hr ⟨ds, G, Qd, Ed, a, b, c, d, x⟩ => ⟨_, PSs.nox (hb _ _ A outer s H E (by
    have := C.tb
    unfold He.cT at this
    rw [ec] at this
    exact this) (by
    have := C.mem
    unfold He.cT at this
    rw [ec] at this
    exact this) (by
    have := C.uniq
    unfold He.cT at this
    rw [ec] at this
    exact this) hr).pss, ?_⟩
  exact ⟨H, G, startD N ds, G, _, a, er_start (T := T) b, ht ds Qd Ed c, ⟨fun r sg H' G' z _ _ q => d .none .non H' G' z .non q, fun _ _ _ _ _ _ _ q => q.elim, fun _ _ _ _ _ _ _ q => q.elim, fun dd v H' G' z p q => d dd v H' G' z p q, fun c H' G' z q => x c H' G' z q⟩⟩
theorem fd_same {x : Str} {params : Arguments} {body : List Stmt} {scope : Scope} {dvs : List V} {kws : List (Str × V)} {f : Addr} {fd fd2 : FuncData} (F : FunD K x x params body scope dvs kws f fd) (h : ∃ oc od osl, K.lookup f = some ⟨oc, od, .func fd2, osl⟩) : fd2 = fd := by
  obtain ⟨oc, od, dV, kV, doc, pm, an, cdv, ct, osl, _, lk, _⟩ := F.ex
  obtain ⟨oc2, od2, osl2, lk2⟩ := h
  rw [lk] at lk2
  cases lk2
  rfl
/-- the law's own promise from its reading -/
theorem sp_law {K : PySem.W.Frag} {T : Tb} {ff : List PyData → M PyData} {H : Hp} {a : Addr} {ns : List Int} (hT : ∀ p ∈ T, H p.1 = some (.tbl #[])) (hS : SqL K H a (ns.map V.int)) (h : ff [.list (ns.map .int)] (fun d => d = .bool true) (fun _ => False)) :
    spF K T ff [.ref a] H (fun v _ => v = .bl true) (fun _ _ _ => False) := by
  have tb : Tabs T H := fun p hp => TabS.nil (hT p hp)
  have fin : ∀ G : Hp, Same G H → NoT G → SqL K G a (ns.map V.int) → spF K T ff [.ref a] H (fun v _ => v = .bl true) (fun _ _ _ => False) := fun G s n q =>
    ⟨_, G, _, _, ⟨s, n, tb, ExtN.refl _, Same.refl _, fun a z => .inl z⟩, .cons (.lst q (DpAll.ints ns)) .nil, h, fun d v H' G' _ p e => by
      subst e
      cases p
      rfl, fun _ _ _ _ q => q⟩
  rcases hS with hS | hS
  · have hn : ∀ ps, H a ≠ some (.tbl ps) := fun ps z => by
      rcases hS with q | ⟨o, q⟩ <;> rw [q] at z <;> cases z
    refine fin (fun b => if b = a then H a else none) (fun b o e => ?_) (fun b ps e => ?_) (.inl ?_)
    · by_cases hb : b = a
      · simp only [if_pos hb] at e
        rw [hb]; exact e
      · simp only [if_neg hb] at e
        cases e
    · by_cases hb : b = a
      · simp only [if_pos hb] at e
        exact hn ps e
      · simp only [if_neg hb] at e
        cases e
    · rcases hS with q | ⟨o, q⟩
      · exact .inl (by simp only [if_pos rfl]; exact q)
      · exact .inr ⟨o, by simp only [if_pos rfl]; exact q⟩
  · exact fin (fun _ => none) (fun b o e => by cases e) (fun b ps e => by cases e) (.inr hS)
end
end Fd
end
section
set_option Elab.async false
set_option linter.all false
set_option maxRecDepth 100000
set_option autoImplicit false
set_option maxHeartbeats 2000000
/-! Dat: the readings of loops and comprehensions over data, in plain Lean. -/
namespace Fd
open PySem PySem.Spec PyProof.Rows L2
/-! ### readings at known data -/
section
variable {i j : Int} {x y : Str} {ds es : List PyData} {b : Bool} {Q : PyData → Prop} {E : Value → Prop} {Qb : Bool → Prop} {Ql : List PyData → Prop} {Qs : Bool → List PyData → Prop} {lo hi : Option Int} {C : Int → Int → Prop} {g : Int → Int → PyData}
@[simp] theorem dTru_1 : dTru .none Qb E = Qb false := rfl
@[simp] theorem dTru_2 : dTru (.bool b) Qb E = Qb b := rfl
@[simp] theorem dTru_3 : dTru (.int i) Qb E = Qb (i != 0) := rfl
@[simp] theorem dTru_4 : dTru (.str x) Qb E = (x.length ≤ sizeLine ∧ Qb ((x.length : Int) != 0)) := rfl
@[simp] theorem dTru_5 : dTru (.list ds) Qb E = Qb (!ds.isEmpty) := rfl
@[simp] theorem dTru_6 : dTru (.tuple ds) Qb E = Qb (!ds.isEmpty) := rfl
@[simp] theorem dSq_1 : dSq (.list ds) Qs = Qs true ds := rfl
@[simp] theorem dSq_2 : dSq (.tuple ds) Qs = Qs false ds := rfl
@[simp] theorem dItems_1 : dItems (.list ds) Ql = Ql ds := rfl
@[simp] theorem dItems_2 : dItems (.tuple ds) Ql = Ql ds := rfl
@[simp] theorem dItems_3 : dItems (.str x) Ql = Ql (signs x) := rfl
@[simp] theorem dAdd_1 : dAdd (.int i) (.int j) Q E = Q (.int (i + j)) := rfl
@[simp] theorem dAdd_2 : dAdd (.str x) (.str y) Q E = (x.length + y.length ≤ sizeLine ∧ Q (.str (x ++ y))) := rfl
@[simp] theorem dAdd_3 : dAdd (.tuple ds) (.tuple es) Q E = (ds.length + es.length ≤ sizeLine ∧ Q (.tuple (ds ++ es))) := rfl
@[simp] theorem dAdd_4 : dAdd (.list ds) (.list es) Q E = (ds.length + es.length ≤ sizeLine ∧ Q (.list (ds ++ es))) := rfl
@[simp] theorem dI_1 : dI C g (.int i) (.int j) Q E = (C i j ∧ Q (g i j)) := rfl
@[simp] theorem dI0_1 : dI0 g (.int i) (.int j) Q E = Q (g i j) := rfl
@[simp] theorem dIxI_1 : dIxI (.list ds) i Q = ∃ d, atI ds i = some d ∧ Q d := rfl
@[simp] theorem dIxI_2 : dIxI (.tuple ds) i Q = ∃ d, atI ds i = some d ∧ Q d := rfl
@[simp] theorem dIxI_3 : dIxI (.str x) i Q = (x.length ≤ sizeLine ∧ ∃ c, atI x.cps.toList i = some c ∧ Q (.str ⟨#[c]⟩)) := rfl
@[simp] theorem dCut_1 : dCut (.list ds) lo hi Q E = Q (.list (cutD ds lo hi)) := rfl
@[simp] theorem dCut_2 : dCut (.tuple ds) lo hi Q E = Q (.tuple (cutD ds lo hi)) := rfl
@[simp] theorem dCut_3 : dCut (.str x) lo hi Q E = (x.length ≤ sizeLine ∧ Q (.str (cutS x lo hi))) := rfl
@[simp] theorem dLen_1 : dLen [.list ds] Q E = Q (.int ds.length) := rfl
@[simp] theorem dLen_2 : dLen [.tuple ds] Q E = Q (.int ds.length) := rfl
@[simp] theorem dLen_3 : dLen [.str x] Q E = (x.length ≤ sizeLine ∧ Q (.int x.length)) := rfl
@[simp] theorem dTupOf_1 : dTupOf [.list ds] Q E = Q (.tuple ds) := rfl
@[simp] theorem dTupOf_2 : dTupOf [.tuple ds] Q E = Q (.tuple ds) := rfl
@[simp] theorem dMin2_1 : dMin2 [.int i, .int j] Q E = Q (.int (if j < i then j else i)) := rfl
@[simp] theorem dMax2_1 : dMax2 [.int i, .int j] Q E = Q (.int (if j > i then j else i)) := rfl
@[simp] theorem dAbs_1 : dAbs [.int i] Q E = Q (.int (if i < 0 then -i else i)) := rfl
@[simp] theorem dIntOf_1 : dIntOf [.int i] Q E = Q (.int i) := rfl
@[simp] theorem dIntOf_2 : dIntOf [.bool b] Q E = Q (.int (if b then 1 else 0)) := rfl
@[simp] theorem dZp_1 : dZp [.list ds, .list es] Ql = Ql (zipD ds es) := rfl
@[simp] theorem dZp_2 : dZp [.tuple ds, .tuple es] Ql = Ql (zipD ds es) := rfl
end
/-! ### loops -/
def lastSl (y : Sl) (ds : List PyData) : Sl := match ds.getLast? with
  | some d => .dat d
  | none => y
theorem lastSl_cons (y : Sl) (d : PyData) (ds : List PyData) : lastSl y (d :: ds) = lastSl (.dat d) ds := by
  unfold lastSl
  cases ds with
  | nil => rfl
  | cons e es => rw [List.getLast?_cons_cons]; cases h : (e :: es).getLast? with
    | none => simp at h
    | some z => rfl
/-- a loop whose turns go on: F s y is the frame at the state s, y in the loop's own slot -/
theorem dFo_iff {S : Type} {i : Nat} {b : DS} {D : DEnds} (P : S → Prop) (F : S → Sl → Ev) (step : S → PyData → S) (hset : ∀ s y z, (F s y).set i z = F s z) : ∀ (ds : List PyData),
    (∀ d ∈ ds, ∀ s, P s → P (step s d)) → (∀ d ∈ ds, ∀ s, P s → ∀ N : Ev → Prop, b { D with nx := N, ct := N, bk := D.nx } (F s (.dat d)) ↔ N (F (step s d) (.dat d))) → ∀ s y, P s → (dFo (dgName i) b ds D (F s y) ↔ D.nx (F (ds.foldl step s) (lastSl y ds)))
  | [], _, _, s, y, _ => Iff.rfl
  | d :: ds, hP, hb, s, y, p => by
    show b { D with nx := dFo (dgName i) b ds D, ct := dFo (dgName i) b ds D, bk := D.nx } ((F s y).set i (.dat d)) ↔ _
    rw [hset, hb d (List.mem_cons_self ..) s p, dFo_iff P F step hset ds (fun e he => hP e (List.mem_cons_of_mem _ he)) (fun e he => hb e (List.mem_cons_of_mem _ he)) (step s d) (.dat d) (hP d (List.mem_cons_self ..) s p), lastSl_cons]
    rfl
/-- a loop by an invariant over the number of turns -/
theorem dFo_of {g : DG} {b : DS} {D : DEnds} (I : Nat → Ev → Prop) : ∀ (ds : List PyData) (k : Nat), (∀ j d r (N : Ev → Prop), ds[j]? = some d → I (k + j) r → (∀ r', I (k + j + 1) r' → N r') → g d r fun r' => b { D with nx := N, ct := N, bk := D.nx } r') →
    (∀ r, I (k + ds.length) r → D.nx r) → ∀ r, I k r → dFo g b ds D r
  | [], k, _, hd, r, h => hd r h
  | d :: ds, k, hs, hd, r, h => by
    refine hs 0 d r _ rfl h fun r' h' => dFo_of I ds (k + 1) (fun j e r N hj hI hN => hs (j + 1) e r N hj (by rwa [show k + (j + 1) = k + 1 + j by omega]) fun r'' h'' => hN r'' (by rwa [show k + 1 + j + 1 = k + (j + 1) + 1 by omega])) (fun r hr => hd r (by rwa [List.length_cons, show k + (ds.length + 1) = k + 1 + ds.length by omega])) r' h'
/-! ### comprehensions -/
theorem dLcGo_iff {g : DG} {tt : DT} {te : DE} {r : Ev} {Q : List PyData → Prop} (sel : PyData → Bool) (f : PyData → PyData) : ∀ (ds acc : List PyData),
    (∀ d ∈ ds, ∀ (Q1 : PyData → Prop) (Q2 : Prop), (g d r fun r2 => tt r2 (fun b => if b = true then te r2 Q1 (fun _ => False) else Q2) (fun _ => False)) ↔ if sel d = true then Q1 (f d) else Q2) →
    (dLcGo g tt te r Q ds acc ↔ Q (acc ++ (ds.filter sel).map f))
  | [], acc, _ => by simp [dLcGo]
  | d :: ds, acc, h => by
    rw [dLcGo, h d (List.mem_cons_self ..)]
    by_cases hs : sel d = true
    · rw [if_pos hs, dLcGo_iff sel f ds _ (fun e he => h e (List.mem_cons_of_mem _ he)), List.filter_cons_of_pos hs, List.map_cons, List.append_assoc]
      rfl
    · rw [if_neg hs, dLcGo_iff sel f ds _ (fun e he => h e (List.mem_cons_of_mem _ he)), List.filter_cons_of_neg hs]
/-- [e for x in ..] -/
theorem lc_map {i : Nat} {te : DE} {r : Ev} {Q : List PyData → Prop} (f : PyData → PyData) {ds : List PyData} (h : ∀ d ∈ ds, ∀ Q1 : PyData → Prop, te (r.set i (.dat d)) Q1 (fun _ => False) ↔ Q1 (f d)) :
    dLcGo (dgName i) dYes te r Q ds [] ↔ Q (ds.map f) := by
  rw [dLcGo_iff (fun _ => true) f ds [] (fun d hd Q1 Q2 => by simp [h d hd]), List.nil_append, List.filter_eq_self.mpr (fun _ _ => rfl)]
/-- [e for x in .. if t] -/
theorem lc_filter {i : Nat} {tt : DT} {te : DE} {r : Ev} {Q : List PyData → Prop} (sel : PyData → Bool) (f : PyData → PyData) {ds : List PyData} (h1 : ∀ d ∈ ds, ∀ Q1 : Bool → Prop, tt (r.set i (.dat d)) Q1 (fun _ => False) ↔ Q1 (sel d))
    (h : ∀ d ∈ ds, sel d = true → ∀ Q1 : PyData → Prop, te (r.set i (.dat d)) Q1 (fun _ => False) ↔ Q1 (f d)) : dLcGo (dgName i) tt te r Q ds [] ↔ Q ((ds.filter sel).map f) := by
  rw [dLcGo_iff sel f ds [] (fun d hd Q1 Q2 => ?_)]
  · simp
  · show tt (r.set i (.dat d)) _ _ ↔ _
    rw [h1 d hd]
    by_cases hs : sel d = true
    · rw [if_pos hs, if_pos hs, h d hd hs]
    · rw [if_neg hs, if_neg hs]
/-- [e for x, y in zip(..)] -/
theorem lc_zip {i j : Nat} {te : DE} {r : Ev} {Q : List PyData → Prop} (f : PyData → PyData → PyData) {xs ys : List PyData} (h : ∀ p ∈ xs.zip ys, ∀ Q1 : PyData → Prop, te ((r.set i (.dat p.1)).set j (.dat p.2)) Q1 (fun _ => False) ↔ Q1 (f p.1 p.2)) :
    dLcGo (dgTup 2 (dgCons (dgName i) (dgCons (dgName j) dgNil))) dYes te r Q (zipD xs ys) [] ↔ Q ((xs.zip ys).map fun p => f p.1 p.2) := by
  rw [dLcGo_iff (fun _ => true) (fun d => match d with | .tuple [x, y] => f x y | _ => .none) (zipD xs ys) [] (fun d hd Q1 Q2 => by
    obtain ⟨p, hp, rfl⟩ := List.mem_map.mp hd
    have := h p hp Q1
    show (∃ es, PyData.tuple [p.1, p.2] = .tuple es ∧ es.length = 2 ∧ ∃ d rest, es = d :: rest ∧ ∃ d2 rest2, rest = d2 :: rest2 ∧ rest2 = [] ∧ (if true = true then te ((r.set i (.dat d)).set j (.dat d2)) Q1 (fun _ => False) else Q2)) ↔ Q1 (f p.1 p.2)
    rw [← this]
    constructor
    · rintro ⟨es, e, _, d, rest, e2, d2, rest2, e3, e4, q⟩
      cases e
      cases e2
      cases e3
      rw [if_pos rfl] at q
      exact q
    · intro q
      exact ⟨_, rfl, rfl, _, _, rfl, _, _, rfl, rfl, by rw [if_pos rfl]; exact q⟩), List.nil_append, List.filter_eq_self.mpr (fun _ _ => rfl), zipD, List.map_map]
  rfl
/-! ### whole numbers as data -/
abbrev nat (n : Nat) : PyData := .int (n : Int)
abbrev nats (l : List Nat) : List PyData := l.map nat
theorem rngD_nat (n : Nat) : rngD 0 n = nats (List.range n) := by
  unfold rngD nats
  apply List.map_congr_left
  intro k _
  simp [nat]
theorem line : sizeLine = 16777216 := sizeLine_eq
theorem atI_nat {A : Type} {xs : List A} {i : Nat} {x : A} (h : xs[i]? = some x) : atI xs (i : Int) = some x := by
  have hl : i < xs.length := (List.getElem?_eq_some_iff.mp h).1
  unfold atI ixN
  rw [if_pos (by omega), if_pos (by omega)]
  simp [h]
theorem atI_neg1 {A : Type} {xs : List A} {x : A} (h : xs.getLast? = some x) : atI xs (-1) = some x := by
  have hl : 0 < xs.length := by
    cases xs with
    | nil => simp at h
    | cons => simp
  unfold atI ixN
  rw [if_neg (by omega), if_pos (by omega)]
  show xs[(-1 + (xs.length : Int)).toNat]? = some x
  rw [show (-1 + (xs.length : Int)).toNat = xs.length - 1 by omega, ← List.getLast?_eq_getElem?]
  exact h

/-! ### items at written places -/
section
variable {A : Type} {a b c d e f g : A} {l : List A}
@[simp] theorem atI_0 : atI (a :: l) 0 = some a := atI_nat (i := 0) rfl
@[simp] theorem atI_1 : atI (a :: b :: l) 1 = some b := atI_nat (i := 1) rfl
@[simp] theorem atI_2 : atI (a :: b :: c :: l) 2 = some c := atI_nat (i := 2) rfl
@[simp] theorem atI_3 : atI (a :: b :: c :: d :: l) 3 = some d := atI_nat (i := 3) rfl
@[simp] theorem atI_4 : atI (a :: b :: c :: d :: e :: l) 4 = some e := atI_nat (i := 4) rfl
@[simp] theorem atI_5 : atI (a :: b :: c :: d :: e :: f :: l) 5 = some f := atI_nat (i := 5) rfl
@[simp] theorem atI_6 : atI (a :: b :: c :: d :: e :: f :: g :: l) 6 = some g := atI_nat (i := 6) rfl
@[simp] theorem atI_m4 : atI [a, b, c, d] (-1) = some d := atI_neg1 rfl
@[simp] theorem atI_m5 : atI [a, b, c, d, e] (-1) = some e := atI_neg1 rfl
end
/-! ### shaped, eqv -/
@[simp] theorem shaped_int (i : Int) : SeqAt.shaped (.int i) = true := rfl
@[simp] theorem shaped_bool (i : Bool) : SeqAt.shaped (.bool i) = true := rfl
@[simp] theorem shaped_none : SeqAt.shaped .none = true := rfl
@[simp] theorem shaped_sums : SeqAt.shaped (.str "sums") = true := by decide +kernel
@[simp] theorem shaped_bits : SeqAt.shaped (.str "bits") = true := by decide +kernel
@[simp] theorem shaped_table : SeqAt.shaped (.str "table") = true := by decide +kernel
@[simp] theorem eqv_int (i j : Int) : PyData.eqv (.int i) (.int j) = decide (i = j) := by
  simp [PyData.eqv]
  exact Bool.beq_eq_decide_eq i j
@[simp] theorem eqv_bool (i j : Bool) : PyData.eqv (.bool i) (.bool j) = decide (i = j) := by
  cases i <;> cases j <;> rfl
@[simp] theorem eqv_nn : PyData.eqv .none .none = true := by simp [PyData.eqv]
@[simp] theorem eqv_ni (i : Int) : PyData.eqv .none (.int i) = false := by simp [PyData.eqv]
@[simp] theorem eqv_in (i : Int) : PyData.eqv (.int i) .none = false := by simp [PyData.eqv]
@[simp] theorem eqv_nt (i : List PyData) : PyData.eqv .none (.tuple i) = false := by simp [PyData.eqv]
@[simp] theorem eqv_tn (i : List PyData) : PyData.eqv (.tuple i) .none = false := by simp [PyData.eqv]
@[simp] theorem eqv_tt (i j : List PyData) : PyData.eqv (.tuple i) (.tuple j) = PyData.eqvAll i j := by simp [PyData.eqv]
@[simp] theorem eqv_ll (i j : List PyData) : PyData.eqv (.list i) (.list j) = PyData.eqvAll i j := by simp [PyData.eqv]
@[simp] theorem eqvAll_nn : PyData.eqvAll [] [] = true := by simp [PyData.eqvAll]
@[simp] theorem eqvAll_nc (x : PyData) (xs : List PyData) : PyData.eqvAll [] (x :: xs) = false := by simp [PyData.eqvAll]
@[simp] theorem eqvAll_cn (x : PyData) (xs : List PyData) : PyData.eqvAll (x :: xs) [] = false := by simp [PyData.eqvAll]
@[simp] theorem eqvAll_cc (x y : PyData) (xs ys : List PyData) : PyData.eqvAll (x :: xs) (y :: ys) = (PyData.eqv x y && PyData.eqvAll xs ys) := by simp [PyData.eqvAll]
@[simp] theorem eqv_ss1 : PyData.eqv (.str "sums") (.str "sums") = true := by decide +kernel
@[simp] theorem eqv_ss2 : PyData.eqv (.str "bits") (.str "bits") = true := by decide +kernel
@[simp] theorem eqv_ss3 : PyData.eqv (.str "table") (.str "table") = true := by decide +kernel
@[simp] theorem eqv_ss4 : PyData.eqv (.str "sums") (.str "bits") = false := by decide +kernel
@[simp] theorem eqv_ss5 : PyData.eqv (.str "sums") (.str "table") = false := by decide +kernel
@[simp] theorem eqv_ss6 : PyData.eqv (.str "bits") (.str "sums") = false := by decide +kernel
@[simp] theorem eqv_ss7 : PyData.eqv (.str "bits") (.str "table") = false := by decide +kernel
@[simp] theorem eqv_ss8 : PyData.eqv (.str "table") (.str "sums") = false := by decide +kernel
@[simp] theorem eqv_ss9 : PyData.eqv (.str "table") (.str "bits") = false := by decide +kernel
/-- plain data: no truth among it, shallow, its texts good -/
def flatB : PyData → Bool
  | .int _ => true
  | .none => true
  | _ => false
theorem shaped_of {d : PyData} (h1 : d.canLay0 = true) (h2 : d.depth ≤ 64) : SeqAt.shaped d = true := by
  unfold SeqAt.shaped
  rw [h1, Bool.true_and]
  exact decide_eq_true h2
theorem lay_all {ds : List PyData} : (∀ d ∈ ds, d.canLay0 = true) → PyData.canLayAll0 ds = true := by
  induction ds with
  | nil => intro _; rfl
  | cons d ds ih => intro h; simp [PyData.canLayAll0, h d (List.mem_cons_self ..), ih fun e he => h e (List.mem_cons_of_mem _ he)]
theorem depth_all {ds : List PyData} {n : Nat} : (∀ d ∈ ds, d.depth ≤ n) → PyData.depthAll ds ≤ n := by
  induction ds with
  | nil => intro _; simp [PyData.depthAll]
  | cons d ds ih => intro h; simp only [PyData.depthAll]; exact Nat.max_le.mpr ⟨h d (List.mem_cons_self ..), ih fun e he => h e (List.mem_cons_of_mem _ he)⟩
/-- of depth at most n -/
structure Sh (n : Nat) (d : PyData) : Prop where
  lay : d.canLay0 = true
  dep : d.depth ≤ n
theorem Sh.ok {n : Nat} {d : PyData} (h : Sh n d) (hn : n ≤ 64) : SeqAt.shaped d = true := shaped_of h.lay (Nat.le_trans h.dep hn)
theorem Sh.mono {m n : Nat} {d : PyData} (h : Sh m d) (hn : m ≤ n) : Sh n d := ⟨h.lay, Nat.le_trans h.dep hn⟩
theorem sh_int (i : Int) : Sh 0 (.int i) := ⟨rfl, by simp [PyData.depth]⟩
theorem sh_bool (i : Bool) : Sh 0 (.bool i) := ⟨rfl, by simp [PyData.depth]⟩
theorem sh_none : Sh 0 .none := ⟨rfl, by simp [PyData.depth]⟩
theorem sh_tuple {n : Nat} {ds : List PyData} (h : ∀ d ∈ ds, Sh n d) : Sh (n + 1) (.tuple ds) := ⟨by rw [PyData.canLay0]; exact lay_all fun d hd => (h d hd).lay, by simp only [PyData.depth]; have := depth_all fun d hd => (h d hd).dep; omega⟩
theorem sh_list {n : Nat} {ds : List PyData} (h : ∀ d ∈ ds, Sh n d) : Sh (n + 1) (.list ds) := ⟨by rw [PyData.canLay0]; exact lay_all fun d hd => (h d hd).lay, by simp only [PyData.depth]; have := depth_all fun d hd => (h d hd).dep; omega⟩
theorem sh_nats (l : List Nat) : ∀ d ∈ nats l, Sh 0 d := fun d hd => by
  obtain ⟨n, _, rfl⟩ := List.mem_map.mp hd
  exact sh_int _
@[simp] theorem shaped_nats (l : List Nat) : SeqAt.shaped (.tuple (nats l)) = true := (sh_tuple (sh_nats l)).ok (by decide)
@[simp] theorem shaped_natsL (l : List Nat) : SeqAt.shaped (.list (nats l)) = true := (sh_list (sh_nats l)).ok (by decide)
theorem eqvAll_nats : ∀ a b : List Nat, PyData.eqvAll (nats a) (nats b) = decide (a = b)
  | [], [] => rfl
  | [], _ :: _ => by simp
  | _ :: _, [] => by simp
  | x :: xs, y :: ys => by
    simp only [nats, List.map_cons, eqvAll_cc, eqv_int]
    have ih := eqvAll_nats xs ys
    unfold nats at ih
    rw [ih]
    have e : ((x : Int) = (y : Int)) ↔ x = y := by omega
    by_cases h1 : x = y <;> by_cases h2 : xs = ys <;> simp [h1, h2, e]
/-- rows of rows -/
theorem eqvAll_map {A : Type} {f : A → PyData} (hf : ∀ x y, (PyData.eqv (f x) (f y) = true) ↔ x = y) : ∀ a b : List A, (PyData.eqvAll (a.map f) (b.map f) = true) ↔ a = b
  | [], [] => by simp
  | [], _ :: _ => by simp
  | _ :: _, [] => by simp
  | x :: xs, y :: ys => by
    simp only [List.map_cons, eqvAll_cc, Bool.and_eq_true, hf, eqvAll_map hf xs ys, List.cons.injEq]
@[simp] theorem nats_length (l : List Nat) : (nats l).length = l.length := by simp [nats]
theorem nats_at {l : List Nat} {i : Nat} (h : i < l.length) : atI (nats l) (i : Int) = some (nat (l.getD i 0)) := by
  apply atI_nat
  simp [nats, h, List.getD_eq_getElem?_getD]
theorem nodup_le : ∀ (n : Nat) (l : List Nat), l.Nodup → (∀ x ∈ l, x < n) → l.length ≤ n
  | 0, [], _, _ => Nat.le_refl _
  | 0, x :: l, _, h => absurd (h x (List.mem_cons_self ..)) (Nat.not_lt_zero _)
  | n + 1, l, hd, h => by
    have ih := nodup_le n (l.erase n) (hd.erase n) fun x hx => by
      have h1 := (hd.mem_erase_iff).mp hx
      have h2 := h x h1.2
      have h3 := h1.1
      omega
    by_cases hm : n ∈ l
    · rw [List.length_erase_of_mem hm] at ih
      omega
    · rw [List.erase_of_not_mem hm] at ih
      omega
theorem nodup_of_lt {l : List Nat} (h : l.Pairwise (· < ·)) : l.Nodup := h.imp fun h => Nat.ne_of_lt h
theorem map_int_inj {a b : List Int} (h : a.map PyData.int = b.map PyData.int) : a = b := by
  have := congrArg (List.map fun d => match d with | PyData.int i => i | _ => 0) h
  simpa [List.map_map, Function.comp_def] using this
theorem map_bool_inj {a b : List Bool} (h : a.map PyData.bool = b.map PyData.bool) : a = b := by
  have := congrArg (List.map fun d => match d with | PyData.bool i => i | _ => false) h
  simpa [List.map_map, Function.comp_def] using this
theorem ex_ints {l : List Int} {P : List Int → Prop} : (∃ ns : List Int, l.map PyData.int = ns.map PyData.int ∧ P ns) ↔ P l :=
  ⟨fun ⟨ns, e, h⟩ => by rw [map_int_inj e]; exact h, fun h => ⟨l, rfl, h⟩⟩
theorem ex_bools {l : List Bool} {P : List Bool → Prop} : (∃ ns : List Bool, l.map PyData.bool = ns.map PyData.bool ∧ P ns) ↔ P l :=
  ⟨fun ⟨ns, e, h⟩ => by rw [map_bool_inj e]; exact h, fun h => ⟨l, rfl, h⟩⟩
theorem nats_ints (l : List Nat) : nats l = (l.map fun (n : Nat) => (n : Int)).map PyData.int := by
  rw [nats, List.map_map]; rfl
theorem nats_inj {a b : List Nat} (h : nats a = nats b) : a = b := by
  rw [nats_ints, nats_ints] at h
  have h2 := congrArg (List.map Int.toNat) (map_int_inj h)
  simpa [List.map_map, Function.comp_def] using h2
/-! ### isinstance -/
@[simp] theorem kit_NoneType_int : kitB "NoneType" "int" = some false := by decide +kernel
@[simp] theorem kit_bool_int : kitB "bool" "int" = some true := by decide +kernel
@[simp] theorem kit_int_int : kitB "int" "int" = some true := by decide +kernel
@[simp] theorem kit_str_int : kitB "str" "int" = some false := by decide +kernel
@[simp] theorem kit_list_int : kitB "list" "int" = some false := by decide +kernel
@[simp] theorem kit_tuple_int : kitB "tuple" "int" = some false := by decide +kernel
@[simp] theorem kit_dict_int : kitB "dict" "int" = some false := by decide +kernel
@[simp] theorem kit_NoneType_bool : kitB "NoneType" "bool" = some false := by decide +kernel
@[simp] theorem kit_bool_bool : kitB "bool" "bool" = some true := by decide +kernel
@[simp] theorem kit_int_bool : kitB "int" "bool" = some false := by decide +kernel
@[simp] theorem kit_str_bool : kitB "str" "bool" = some false := by decide +kernel
@[simp] theorem kit_list_bool : kitB "list" "bool" = some false := by decide +kernel
@[simp] theorem kit_tuple_bool : kitB "tuple" "bool" = some false := by decide +kernel
@[simp] theorem kit_dict_bool : kitB "dict" "bool" = some false := by decide +kernel
@[simp] theorem kit_NoneType_tuple : kitB "NoneType" "tuple" = some false := by decide +kernel
@[simp] theorem kit_bool_tuple : kitB "bool" "tuple" = some false := by decide +kernel
@[simp] theorem kit_int_tuple : kitB "int" "tuple" = some false := by decide +kernel
@[simp] theorem kit_str_tuple : kitB "str" "tuple" = some false := by decide +kernel
@[simp] theorem kit_list_tuple : kitB "list" "tuple" = some false := by decide +kernel
@[simp] theorem kit_tuple_tuple : kitB "tuple" "tuple" = some true := by decide +kernel
@[simp] theorem kit_dict_tuple : kitB "dict" "tuple" = some false := by decide +kernel
@[simp] theorem kit_NoneType_str : kitB "NoneType" "str" = some false := by decide +kernel
@[simp] theorem kit_bool_str : kitB "bool" "str" = some false := by decide +kernel
@[simp] theorem kit_int_str : kitB "int" "str" = some false := by decide +kernel
@[simp] theorem kit_str_str : kitB "str" "str" = some true := by decide +kernel
@[simp] theorem kit_list_str : kitB "list" "str" = some false := by decide +kernel
@[simp] theorem kit_tuple_str : kitB "tuple" "str" = some false := by decide +kernel
@[simp] theorem kit_dict_str : kitB "dict" "str" = some false := by decide +kernel
@[simp] theorem kit_NoneType_list : kitB "NoneType" "list" = some false := by decide +kernel
@[simp] theorem kit_bool_list : kitB "bool" "list" = some false := by decide +kernel
@[simp] theorem kit_int_list : kitB "int" "list" = some false := by decide +kernel
@[simp] theorem kit_str_list : kitB "str" "list" = some false := by decide +kernel
@[simp] theorem kit_list_list : kitB "list" "list" = some true := by decide +kernel
@[simp] theorem kit_tuple_list : kitB "tuple" "list" = some false := by decide +kernel
@[simp] theorem kit_dict_list : kitB "dict" "list" = some false := by decide +kernel
/-- a whole number (no truth) between two -/
def wholeB (lo hi : Int) : PyData → Bool
  | .int i => decide (lo ≤ i) && decide (i ≤ hi)
  | _ => false
theorem len4 {A : Type} {l : List A} (h : l.length = 4) : ∃ a b c d, l = [a, b, c, d] := by
  match l, h with
  | [a, b, c, d], _ => exact ⟨a, b, c, d, rfl⟩
theorem len5 {A : Type} {l : List A} (h : l.length = 5) : ∃ a b c d e, l = [a, b, c, d, e] := by
  match l, h with
  | [a, b, c, d, e], _ => exact ⟨a, b, c, d, e, rfl⟩
theorem whole_shape {lo hi : Int} {d : PyData} (h : wholeB lo hi d = true) : ∃ i, d = .int i ∧ lo ≤ i ∧ i ≤ hi := by
  cases d with
  | int i => simp [wholeB] at h; exact ⟨i, rfl, h⟩
  | _ => simp [wholeB] at h
theorem whole_all {lo hi : Int} : ∀ {ds : List PyData}, ds.all (wholeB lo hi) = true → ∃ ns : List Int, ds = ns.map PyData.int ∧ ∀ n ∈ ns, lo ≤ n ∧ n ≤ hi
  | [], _ => ⟨[], rfl, fun _ h => by cases h⟩
  | d :: ds, h => by
    simp only [List.all_cons, Bool.and_eq_true] at h
    obtain ⟨i, rfl, h1⟩ := whole_shape h.1
    obtain ⟨ns, rfl, h2⟩ := whole_all h.2
    refine ⟨i :: ns, rfl, fun n hn => ?_⟩
    rcases List.mem_cons.mp hn with rfl | hn
    · exact h1
    · exact h2 n hn
/-- all([..]) of a comprehension -/
theorem all_map {A : Type} (ds : List A) (p : A → Bool) {P : List Bool → Prop} : (∃ bs : List Bool, ds.map (fun d => PyData.bool (p d)) = bs.map PyData.bool ∧ P bs) ↔ P (ds.map p) := by
  have e : ds.map (fun d => PyData.bool (p d)) = (ds.map p).map PyData.bool := by rw [List.map_map]; rfl
  rw [e, ex_bools]
theorem all_id {A : Type} (ds : List A) (p : A → Bool) : (ds.map p).all id = ds.all p := by
  induction ds with
  | nil => rfl
  | cons d ds ih => simp only [List.map_cons, List.all_cons, ih, id]
/-! ### comprehensions over whole numbers -/
def ofN {A : Type} (f : Nat → A) (z : A) : PyData → A
  | .int s => f s.toNat
  | _ => z
theorem ofN_nat {A : Type} (f : Nat → A) (z : A) (n : Nat) : ofN f z (nat n) = f n := by simp [ofN, nat]
theorem lc_nats {i : Nat} {te : DE} {r : Ev} {Q : List PyData → Prop} (f : Nat → PyData) {l : List Nat} (h : ∀ x ∈ l, ∀ Q1 : PyData → Prop, te (r.set i (.dat (nat x))) Q1 (fun _ => False) ↔ Q1 (f x)) :
    dLcGo (dgName i) dYes te r Q (nats l) [] ↔ Q (l.map f) := by
  rw [lc_map (ofN f .none) (fun d hd Q1 => by
    obtain ⟨x, hx, rfl⟩ := List.mem_map.mp hd
    rw [ofN_nat]
    exact h x hx Q1), nats, List.map_map]
  have e : (ofN f .none ∘ nat) = f := funext fun x => ofN_nat f .none x
  rw [e]
theorem lc_natsF {i : Nat} {tt : DT} {te : DE} {r : Ev} {Q : List PyData → Prop} (p : Nat → Bool) (f : Nat → PyData) {l : List Nat} (h1 : ∀ x ∈ l, ∀ Q1 : Bool → Prop, tt (r.set i (.dat (nat x))) Q1 (fun _ => False) ↔ Q1 (p x))
    (h : ∀ x ∈ l, p x = true → ∀ Q1 : PyData → Prop, te (r.set i (.dat (nat x))) Q1 (fun _ => False) ↔ Q1 (f x)) : dLcGo (dgName i) tt te r Q (nats l) [] ↔ Q ((l.filter p).map f) := by
  rw [lc_filter (ofN p false) (ofN f .none) (fun d hd Q1 => by
    obtain ⟨x, hx, rfl⟩ := List.mem_map.mp hd
    rw [ofN_nat]
    exact h1 x hx Q1) (fun d hd hs Q1 => by
    obtain ⟨x, hx, rfl⟩ := List.mem_map.mp hd
    rw [ofN_nat] at hs ⊢
    exact h x hx hs Q1), nats, List.filter_map, List.map_map]
  have e : (ofN f .none ∘ nat) = f := funext fun x => ofN_nat f .none x
  have e2 : (ofN p false ∘ nat) = p := funext fun x => ofN_nat p false x
  rw [e, e2]
/-- .. over other things that stand for themselves -/
theorem lc_maps {A : Type} {i : Nat} {te : DE} {r : Ev} {Q : List PyData → Prop} (g : A → PyData) (f : A → PyData) : ∀ {l : List A} (acc : List PyData), (∀ x ∈ l, ∀ Q1 : PyData → Prop, te (r.set i (.dat (g x))) Q1 (fun _ => False) ↔ Q1 (f x)) →
    (dLcGo (dgName i) dYes te r Q (l.map g) acc ↔ Q (acc ++ l.map f))
  | [], acc, _ => by simp [dLcGo]
  | x :: l, acc, h => by
    have hx := h x (List.mem_cons_self ..)
    have ih := fun acc => lc_maps (Q := Q) g f (l := l) acc fun y hy => h y (List.mem_cons_of_mem _ hy)
    rw [List.map_cons, dLcGo]
    show (if true = true then te (r.set i (.dat (g x))) (fun y => dLcGo (dgName i) dYes te r Q (l.map g) (acc ++ [y])) (fun _ => False) else dLcGo (dgName i) dYes te r Q (l.map g) acc) ↔ _
    rw [if_pos rfl, hx, ih]
    simp
theorem lc_mapsF {A : Type} {i : Nat} {tt : DT} {te : DE} {r : Ev} {Q : List PyData → Prop} (g : A → PyData) (p : A → Bool) (f : A → PyData) : ∀ {l : List A} (acc : List PyData), (∀ x ∈ l, ∀ Q1 : Bool → Prop, tt (r.set i (.dat (g x))) Q1 (fun _ => False) ↔ Q1 (p x)) → (∀ x ∈ l, p x = true → ∀ Q1 : PyData → Prop, te (r.set i (.dat (g x))) Q1 (fun _ => False) ↔ Q1 (f x)) →
    (dLcGo (dgName i) tt te r Q (l.map g) acc ↔ Q (acc ++ (l.filter p).map f))
  | [], acc, _, _ => by simp [dLcGo]
  | x :: l, acc, h1, h => by
    have ih := fun acc => lc_mapsF (Q := Q) g p f (l := l) acc (fun y hy => h1 y (List.mem_cons_of_mem _ hy)) fun y hy => h y (List.mem_cons_of_mem _ hy)
    rw [List.map_cons, dLcGo]
    show tt (r.set i (.dat (g x))) _ _ ↔ _
    rw [h1 x (List.mem_cons_self ..)]
    by_cases hp : p x = true
    · rw [if_pos hp, h x (List.mem_cons_self ..) hp, ih, List.filter_cons_of_pos hp]
      simp
    · rw [if_neg hp, ih, List.filter_cons_of_neg hp]
end Fd
end
section
set_option Elab.async false
set_option linter.all false
set_option maxRecDepth 100000
set_option autoImplicit false
set_option maxHeartbeats 2000000
/-! Fd5: in, not in, index. -/
namespace Fd
open PySem PySem.Spec PyProof.Rows L2 LamX
section
variable {X : Cx} {T : Tb} {E : XK} {a b e : Expr} {es : List Expr} {ta tb : DE} {tq : DQ} {pos : Pos}
theorem units65 {k : Nat} {A : Around} (hr : Room k A) : A.units + 65 < cLine := by have := hr.un; omega
theorem sqA_dp {K : PySem.W.Frag} {H : Hp} {p : Addr} {vs : List V} {ds : List PyData} : ∀ {bb : Bool}, SqA K H p vs bb → DpAll K H vs ds → Dp K H (.ref p) (if bb then .list ds else .tuple ds)
  | true, s, d => .lst s d
  | false, s, d => .tup s d
theorem sqA_ext {K : PySem.W.Frag} {H H2 : Hp} {p : Addr} {vs : List V} (h2 : ExtN H H2) : ∀ {bb : Bool}, SqA K H p vs bb → SqA K H2 p vs bb
  | true, sq => by
    rcases sq with (z | ⟨o, z⟩) | z
    · exact .inl (.inl (h2 _ _ z (fun ps q => by cases q)))
    · exact .inl (.inr ⟨o, h2 _ _ z (fun ps q => by cases q)⟩)
    · exact .inr z
  | false, sq => by
    rcases sq with (z | ⟨o, z⟩) | z
    · exact .inl (.inl (h2 _ _ z (fun ps q => by cases q)))
    · exact .inl (.inr ⟨o, h2 _ _ z (fun ps q => by cases q)⟩)
    · exact .inr z
/-- x in a list or tuple -/
def rInA (K : PySem.W.Frag) (neg : Bool) : R2 := fun x y H Q => ∃ d ds p vs bb, Dp K H x d ∧ y = .ref p ∧ SqA K H p vs bb ∧ DpAll K H vs ds ∧ SeqAt.shaped d = true ∧ SeqAt.shaped (.list ds) = true ∧ Q (.bl (if neg then !(ds.any fun z => PyData.eqv z d) else ds.any fun z => PyData.eqv z d)) H
theorem op_inA (hu : X.A.units + 65 < cLine) : OpR X (compareOp .In) (rInA X.K false) := by
  intro pins s σ H x y v u Q I rx ry h
  obtain ⟨d, ds, p, vs, bb, hd, rfl, hs, ha, sd, se, q⟩ := h
  obtain ⟨as, r1⟩ := Dp.reads I d x v hd rx
  obtain ⟨bs, r2⟩ := Dp.reads I _ _ u (sqA_dp hs ha) ry
  cases bb with
  | true => exact SeqAt.in_list_reads r2 r1 (SeqAt.canLay_of_shaped se) (SeqAt.canLay_of_shaped sd) (room_in_shaped sd hu) ⟨.bl _, H, I, rfl, q⟩
  | false => exact SeqAt.in_tuple_reads r2 r1 (SeqAt.canLay_of_shaped se) (SeqAt.canLay_of_shaped sd) (room_in_shaped sd hu) ⟨.bl _, H, I, rfl, q⟩
theorem op_notInA (hu : X.A.units + 65 < cLine) : OpR X (compareOp .NotIn) (rInA X.K true) := by
  intro pins s σ H x y v u Q I rx ry h
  obtain ⟨d, ds, p, vs, bb, hd, rfl, hs, ha, sd, se, q⟩ := h
  obtain ⟨as, r1⟩ := Dp.reads I d x v hd rx
  obtain ⟨bs, r2⟩ := Dp.reads I _ _ u (sqA_dp hs ha) ry
  cases bb with
  | true => exact SeqAt.notIn_list_reads r2 r1 (SeqAt.canLay_of_shaped se) (SeqAt.canLay_of_shaped sd) (room_in_shaped sd hu) ⟨.bl _, H, I, rfl, q⟩
  | false => exact SeqAt.notIn_tuple_reads r2 r1 (SeqAt.canLay_of_shaped se) (SeqAt.canLay_of_shaped sd) (room_in_shaped sd hu) ⟨.bl _, H, I, rfl, q⟩
/-- is there an equal one -/
def hasD (ds : List PyData) (d : PyData) : Bool := ds.any fun z => PyData.eqv z d
@[simp] def dIn (ta : DE) (tq : DQ) : DE := fun r Q E => ta r (fun d => tq r (fun _ ds => SeqAt.shaped d = true ∧ SeqAt.shaped (.list ds) = true ∧ Q (.bool (hasD ds d))) E) E
@[simp] def dNotIn (ta : DE) (tq : DQ) : DE := fun r Q E => ta r (fun d => tq r (fun _ ds => SeqAt.shaped d = true ∧ SeqAt.shaped (.list ds) = true ∧ Q (.bool (!hasD ds d))) E) E
theorem in_of : ∀ sg H Q, lf X.K T E (dIn ta tq) sg H Q → tOp (rInA X.K false) (lf X.K T E ta) (lfQ X.K T E tq) sg H Q := by
  intro sg H Q ⟨H0, G0, r, G, Qd, Ed, h, er, w, k, x⟩
  refine ⟨H0, G0, r, G, _, Ed, h, er, w, fun d1 v1 H1 G1 h1 p1 w1 => ?_, x⟩
  refine ⟨H0, G0, r, G1, _, Ed, h.trans h1, er.grow h1, w1, fun bb ds p vs H2 G2 h2 sq p2 ⟨s1, s2, q⟩ => ?_, x.up h1⟩
  exact ⟨d1, ds, p, vs, bb, p1.up (fun a o z => h2.sub a o (h2.g0 a o z)), rfl, sq, p2.up h2.sub, s1, s2, k _ _ H2 G2 (h1.trans h2) (.bl _) q⟩
theorem notIn_of : ∀ sg H Q, lf X.K T E (dNotIn ta tq) sg H Q → tOp (rInA X.K true) (lf X.K T E ta) (lfQ X.K T E tq) sg H Q := by
  intro sg H Q ⟨H0, G0, r, G, Qd, Ed, h, er, w, k, x⟩
  refine ⟨H0, G0, r, G, _, Ed, h, er, w, fun d1 v1 H1 G1 h1 p1 w1 => ?_, x⟩
  refine ⟨H0, G0, r, G1, _, Ed, h.trans h1, er.grow h1, w1, fun bb ds p vs H2 G2 h2 sq p2 ⟨s1, s2, q⟩ => ?_, x.up h1⟩
  exact ⟨d1, ds, p, vs, bb, p1.up (fun a o z => h2.sub a o (h2.g0 a o z)), rfl, sq, p2.up h2.sub, s1, s2, k _ _ H2 G2 (h1.trans h2) (.bl _) q⟩
theorem fe_in (hu : X.A.units + 65 < cLine) (ha : FE X T E a ta) (hb : FQ X T E b tq) (hm : behindInMarks .In b = false) : FE X T E (.Compare a [.In] [b] pos) (dIn ta tq) := FE.mk' (pe_cmpR (op_inA hu) ha.pe hb.pe hm) in_of
theorem fe_notIn (hu : X.A.units + 65 < cLine) (ha : FE X T E a ta) (hb : FQ X T E b tq) (hm : behindInMarks .NotIn b = false) : FE X T E (.Compare a [.NotIn] [b] pos) (dNotIn ta tq) := FE.mk' (pe_cmpR (op_notInA hu) ha.pe hb.pe hm) notIn_of
theorem ft_in (hu : X.A.units + 65 < cLine) (ha : FE X T E a ta) (hb : FQ X T E b tq) (hm : behindInMarks .In b = false) : FT X T E (.Compare a [.In] [b] pos) (dTest (dIn ta tq)) := FT.mk' (pt_cmpR (op_inA hu) ha.pe hb.pe hm) fun sg H Q w => in_of _ _ _ (lf_test _ _ _ w)
theorem ft_notIn (hu : X.A.units + 65 < cLine) (ha : FE X T E a ta) (hb : FQ X T E b tq) (hm : behindInMarks .NotIn b = false) : FT X T E (.Compare a [.NotIn] [b] pos) (dTest (dNotIn ta tq)) := FT.mk' (pt_cmpR (op_notInA hu) ha.pe hb.pe hm) fun sg H Q w => notIn_of _ _ _ (lf_test _ _ _ w)
/-- xs.index(x) -/
def idxD (ds : List PyData) (d : PyData) : Option Nat := ds.findIdx? fun z => PyData.eqv z d
@[simp] def dIndex (tq : DQ) (ta : DE) : DE := fun r Q E => tq r (fun b ds => b = true ∧ ta r (fun d => SeqAt.shaped d = true ∧ SeqAt.shaped (.list ds) = true ∧ ∃ j, idxD ds d = some j ∧ Q (.int (j : Nat))) E) E
theorem fe_index {apos cpos : Pos} (hu : X.A.units + 65 < cLine) (ho : FQ X T E a tq) (he : FE X T E e ta)
    (hbase : attributeBase a "index" X.env (eval a X.env) = eval a X.env := by rfl)
    (hfew : ((backTo cpos (starEach [e] X.env)).all (fun x => !x.1) && (backToKw cpos (keywordEach [] X.env)).all (fun x => x.1.isSome) && decide ([e].length + ([] : List Keyword).length + (if ([] : List Keyword).isEmpty then 0 else 1) < 30)) = true := by rfl)
    (hline : (apos.endLine == cpos.line) = true := by rfl) (hs : starEach [e] X.env = (false, eval e X.env) :: starEach [] X.env := by rfl) (hplain : (backTo cpos (starEach [] X.env)).any (·.1) = false := by rfl) :
    FE X T E (.Call (.Attribute a "index" apos) [e] [] cpos) (dIndex tq ta) := by
  refine FE.mk' (pe_bm PySem.F.plainAttrs_list PySem.F.slot_list_index PySem.F.type_list_index (mt_indexD hu) ho.pe (pa_cons he.pe pa_nil hs) hbase hfew hline hs hplain) fun sg H Q ⟨H0, G0, r, G, Qd, Ed, h, er, w, k, x⟩ => ?_
  refine ⟨H0, G0, r, G, _, Ed, h, er, w, fun bb ds p vs H1 G1 h1 sq p1 ⟨hb, w1⟩ => ?_, x⟩
  subst hb
  refine ⟨.inl ⟨rfl, vs, sq⟩, H0, G0, r, G1, _, Ed, h.trans h1, er.grow h1, w1, fun d2 v2 H2 G2 h2 p2 ⟨s1, s2, j, hj, q⟩ => ?_, x.up h1⟩
  have hj1 := List.findIdx?_eq_some_iff_getElem.mp hj
  obtain ⟨hjl, hje, hjn⟩ := hj1
  refine ⟨p, v2, d2, ds, j, ds[j], rfl, rfl, .lst (sqA_ext (bb := true) h2.ext sq) ((p1.up h2.g0).up h2.sub), p2.up h2.sub, s2, s1, List.getElem?_eq_getElem hjl, hje, fun m z' hm hz => ?_, k _ _ H2 G2 (h1.trans h2) (.int _) q⟩
  obtain ⟨hml, rfl⟩ := List.getElem?_eq_some_iff.mp hz
  simpa using hjn m hm
end
end Fd
end
section
set_option Elab.async false
set_option linter.all false
set_option maxRecDepth 100000
set_option autoImplicit false
set_option maxHeartbeats 2000000
/-! Fd6: what is never reached; range downward. -/
namespace Fd
open PySem PySem.Spec PyProof.Rows L2 LamX
section
variable {X : Cx} {T : Tb} {E : XK} {a b c e tg : Expr} {es : List Expr} {ta tb : DE} {tq : DQ} {pos : Pos}
/-- never reached -/
def dNever : DS := fun _ _ => False
theorem fs_never {st : Stmt} : FS X T E st dNever := ⟨⟨fun pins s sg H D I ⟨H0, G0, r, G, Dd, h, er, w, k⟩ => w.elim⟩⟩
def dNo : DE := fun _ _ _ => False
theorem fe_no : FE X T E e dNo := ⟨⟨fun pins s sg H Q I ⟨H0, G0, r, G, Qd, Ed, h, er, w, k⟩ => w.elim⟩⟩
@[simp] theorem dNever_iff {D : DEnds} {r : Ev} : dNever D r ↔ False := Iff.rfl
@[simp] theorem dNo_iff {r : Ev} {Q : PyData → Prop} {E : Value → Prop} : dNo r Q E ↔ False := Iff.rfl
/-- range(i, j, -1) -/
def downD (lo : Int) (n : Nat) : List PyData := (List.range n).map fun k => .int (lo + (k : Nat) * (-1))
theorem downD_length (lo : Int) (n : Nat) : (downD lo n).length = n := by simp [downD]
theorem walkD_down {K : PySem.W.Frag} {lo : Int} {n : Nat} {G1 : Hp} : WalkD K T (Itc lo (-1) n) (downD lo n) G1 (fun _ => True) := by
  refine ⟨fun i H hi q => by rw [downD_length] at hi; exact hi, fun H q => by rw [downD_length]; exact Nat.le_refl _, fun i H G x H' hi q hr sm y => ?_⟩
  obtain ⟨e1, e2⟩ := y
  subst e1 e2
  rw [downD_length] at hi
  exact ⟨G, .int (lo + (i : Nat) * (-1)), by simp [downD, hi], hr, .int _⟩
@[simp] def dRng3 (t : DA) : DA := fun r Q E => t r (fun ds => ∃ i j, ds = [.int i, .int j, .int (-1)] ∧ b62 i ∧ b62 j ∧ Q (downD i (i - j).toNat)) E
theorem fi_range3 {ts : DA} {p : Pos} (hg : Gl X "range") (hm : X.mg "range" = none) (ha : FA X T E [a, b, c] ts) (hs : starEach [a, b, c] X.env = (false, eval a X.env) :: starEach [b, c] X.env := by rfl) (hpl : (backTo pos (starEach [b, c] X.env)).any (·.1) = false := by rfl) : FI X T E true tg (.Call (.Name "range" p) [a, b, c] [] pos) (dRng3 ts) := by
  refine FI.mk' (pi_range3 hg hm ha.pa hs hpl) fun sg H R ⟨H0, G0, r, G, Qd, Ed, h, er, w, k, x⟩ => ?_
  refine ⟨H0, G0, r, G, _, Ed, h, er, w, fun ds vs H' G' z p ⟨i, j, e, b, c, q⟩ => ?_, x⟩
  subst e
  have ev := DpAll.ofInts (ns := [i, j, -1]) p
  subst ev
  exact ⟨i, j, -1, _, rfl, RgC.neg b.1 b.2 c.1 c.2, k _ _ _ H' G' z walkD_down (fun _ _ => trivial) (fun _ _ _ => trivial) q⟩
end
end Fd
end
section
set_option Elab.async false
set_option linter.all false
set_option maxRecDepth 100000
set_option autoImplicit false
set_option maxHeartbeats 4000000
/-! FdT: sorted(set(a list of ints)). -/
namespace Fd
open PySem PySem.Spec PyProof.Rows L2 LamX
section
variable {P : Program} {w : World} {A : Around} {E : Value → Shared → Prop} {s : Shared}
abbrev noSet (w : World) : Obj := { cls := .type "set", dict := none, data := .set #[] 0 (.fresh 0 0 (!w.params.followText "set-order")) }
theorem set_of_list {l : Addr} {items : Array Value} (ns : List Int) {Q : Value → Shared → Prop} (hh : A.handled = none) (hl : s.heap.IsList l items) (hit : IntsAre items.toList ns) (hb : ns.length + 1 < scanBound)
    (h : ∀ (h' : Heap) (tk c : Nat), SetR w h' s.heap.objs.size (fun j => decide (j ∈ ns)) c → c ≤ ns.length → (∀ b o, s.heap.get? b = some o → h'.get? b = some o) → Q (.ref s.heap.objs.size) { s with heap := h', toks := tk }) : wpAny (model P w) A (call (.type "set") [.ref l]) Q E s := by
  have hisz : items.size = ns.length := (Array.length_toList (xs := items)).symm.trans (IntsAre.length hit)
  have C := F.called_set
  obtain ⟨c, tl, hmro⟩ := C.mro
  have hmade := C.made; have hsub := C.sub; have h1 := C.notType; have h2 := C.canCreate
  refine wpAny_call (codeAny_of_tree (show wpAny _ _ (callAny (.type "set") _) _ _ _ from wpAny_pure ⟨Code.quiet_builtin _ (by decide +kernel), codeAny_builtin F.entry_type_call ?_⟩))
  rw [Around.under_plain (weight_type_call_type "set" [.ref l] []) rfl]; have hct := F.typeCall_set_1 (.ref l)
  repeat (any_goals (first | assumption | wp_step))
  refine codeAny_mono (code_set_led1 (.ref l) (E := E) (Q₁ := fun z s₁ => z = .ref s.heap.objs.size ∧ s₁ = { s with heap := s.heap.push (noSet w) }) ⟨rfl, rfl⟩) fun r s₁ hr => ?_
  rcases r with _ | fl
  · exact hr
  · cases fl with
    | ret obj =>
      obtain ⟨rfl, rfl⟩ := hr
      have hS : (s.heap.push (noSet w)).get? s.heap.objs.size = some (noSet w) := Heap.get?_push_size _ rfl
      have hT : Shared.TypeIs { s with heap := s.heap.push (noSet w) } (.ref s.heap.objs.size) "set" := ⟨_, hS, rfl⟩
      have hli := C.init.lookup; have hbi := C.init.bind (.ref s.heap.objs.size)
      repeat (any_goals (first | assumption | wp_step))
      refine codeAny_mono (codeAny_call_builtin (R := wants (fun z s₂ => z = .none ∧ ∃ h' tk c, s₂ = { s with heap := h', toks := tk } ∧ SetR w h' s.heap.objs.size (fun j => decide (j ∈ ns)) c ∧ c ≤ ns.length ∧ (∀ b o, s.heap.get? b = some o → h'.get? b = some o)) E) C.init.plain F.entry_set_init (check_set_init_1 hT ?_)) fun r₂ s₂ hr₂ => ?_
      · obtain ⟨⟨ocls, odict, odata, oslots⟩, hol, hcl, nl, hdl⟩ := hl
        simp only at hcl hdl; subst hcl hdl
        have hol' : (s.heap.push (noSet w)).get? l = some { cls := .type "list", dict := odict, data := .seq items nl, slots := oslots } := Heap.get?_push_of_some _ hol
        have hsls := F.sub_list_set; have hslf := F.sub_list_frozenset; have hne : (Value.type "list" == Value.type "dict") = false := by decide
        have hl1 : (s.heap.push (noSet w)).IsList l items := ⟨_, hol', rfl, nl, rfl⟩
        unfold Builtin.«set.__init__» noKeywords Builtin.Frozenset.updateFrom; generalize hPI : pyIter = PI
        wp_walk
        subst hPI
        refine wpAny_pyIter_list hl1 (wpAny_bind (wpAny_runValue ?_))
        have hlS : l < s.heap.objs.size := Heap.lt_size hol
        have hsz : (s.heap.push (noSet w)).objs.size = s.heap.objs.size + 1 := Heap.size_push ..
        have hneI : l ≠ (s.heap.push (noSet w)).objs.size := fun e => by rw [hsz] at e; exact Nat.ne_of_lt (Nat.lt_succ_of_lt hlS) e
        have hSf : s.heap.objs.size ∉ [(s.heap.push (noSet w)).objs.size, l] := by rw [hsz]; simp only [List.mem_cons, List.not_mem_nil, or_false, not_or]; exact ⟨Nat.ne_of_lt (Nat.lt_succ_self _), Nat.ne_of_gt hlS⟩
        have hval : ∀ (i : Nat) (v : Value), items[i]? = some v → ∃ k t, ns[i]? = some k ∧ v = .int k t := fun i v hv => by
          have hi : i < ns.length := by rw [← hisz]; exact (Array.getElem?_eq_some_iff.mp hv).1
          obtain ⟨t, e⟩ := PyProof.Rows.IntsAre.int_at hit i v (by rw [Array.getElem?_toList]; exact hv)
          exact ⟨ns[i], t, List.getElem?_eq_getElem hi, by rw [e, List.getD_eq_getElem?_getD, List.getElem?_eq_getElem hi] <;> rfl⟩
        refine set_update_ints ((Walks.list (show A.in1.in1.in1.handled = none by simp [hh]) _ l hneI items).toS) s.heap.objs.size hSf ns hisz hb hval (items.size - 0) 0 _ (by omega) (Nat.zero_le _) ⟨⟨_, Heap.get?_push_size _ rfl, rfl, rfl⟩, (hl1.push _)⟩ ?first ?last
        case first => exact ⟨0, Nat.le_refl 0, setR_new_at (Heap.get?_push_of_some _ hS)⟩
        case last =>
          intro s' c' hm hc' hS'
          obtain ⟨h', g2, d', tk', os'⟩ := s'
          obtain rfl : g2 = s.gens := hm.gens
          obtain rfl : d' = s.drawn := hm.drawn
          obtain rfl : os' = s.os := hm.os
          refine (show wpAny _ _ _ _ _ _ from wpAny_pure (show wpAny _ _ (ret Value.none) _ _ _ from wpAny_pure ⟨rfl, h', tk', c', rfl, hS', by rw [hisz] at hc'; exact hc', fun b o e => ?_⟩))
          have hb0 : b < s.heap.objs.size := Heap.lt_size e
          exact hm.heap b o (by rw [hsz]; simp only [List.mem_cons, List.not_mem_nil, or_false, not_or]; exact ⟨Nat.ne_of_lt hb0, Nat.ne_of_lt (Nat.lt_succ_of_lt hb0)⟩) (Heap.get?_push_of_some _ (Heap.get?_push_of_some _ e))
      · rcases r₂ with _ | fl₂
        · exact hr₂
        · cases fl₂ with
          | ret r =>
            obtain ⟨rfl, h', tk, c', rfl, hS', hc', hk'⟩ := hr₂
            repeat (any_goals (first | assumption | wp_step))
            exact h _ _ _ hS' hc' hk'
          | _ => exact hr₂.elim
    | _ => exact hr.elim
end
section
variable {X : Cx} {T : Tb} {E : XK} {a b c e tg : Expr} {es : List Expr} {ta tb : DE} {tq : DQ} {pos : Pos}
/-- set(xs) of a list of ints -/
def rSetL (K : PySem.W.Frag) (w : World) : List V → Hp → VK → Prop := fun xs H Q => ∃ (a : Addr) (ns : List Int), xs = [.ref a] ∧ SqL K H a (ns.map V.int) ∧ ns.length < 4000 ∧ ∀ (p : Addr) (n : Nat), H p = none → n ≤ ns.length → Q (.ref p) (upd H p (SetO w p (fun j => decide (j ∈ ns)) n))
theorem cr_setL (hc : X.calm = true) : CallR X (.type "set") (rSetL X.K X.w) := by
  intro pins s σ H vs us Q I r h
  obtain ⟨a, ns, rfl, hs, hn, q⟩ := h
  obtain ⟨its, rv, hl, _⟩ := I.list hs
  rw [Vals.ref1 r]
  refine set_of_list ns (I.ok.hd hc) hl.isList (by simpa using rv.ints) (by unfold scanBound; omega) fun h' tk c R hcn k => ?_
  exact ⟨.ref _, upd H s.heap.objs.size (SetO X.w s.heap.objs.size (fun j => decide (j ∈ ns)) c), I.laid (t' := tk) k (Nat.le_refl _) (setO_new R), rfl, q _ c (I.hok.fresh (Nat.le_refl _)) hcn⟩
end
end Fd
end
section
set_option Elab.async false
set_option linter.all false
set_option maxRecDepth 100000
set_option autoImplicit false
set_option maxHeartbeats 4000000
/-! FdU: sorted(set(..)), sorted(..) of ints. -/
namespace Fd
open PySem PySem.Spec PyProof.Rows L2 LamX
theorem nd_len : ∀ {l L : List Int}, l.Nodup → (∀ x ∈ l, x ∈ L) → l.length ≤ L.length
  | [], _, _, _ => Nat.zero_le _
  | a :: l, L, h, hs => by
    have h' := List.nodup_cons.mp h
    have ha := hs a (List.mem_cons_self ..)
    have ih := nd_len (l := l) (L := L.erase a) h'.2 fun x hx => by
      refine (List.mem_erase_of_ne ?_).mpr (hs x (List.mem_cons_of_mem _ hx))
      rintro rfl
      exact h'.1 hx
    have e := List.length_erase_of_mem ha
    have : 0 < L.length := List.length_pos_of_mem ha
    rw [List.length_cons]
    omega
section
variable {P : Program} {w : World} {A : Around} {E : Value → Shared → Prop} {s : Shared} {a : Addr}
/-- sorted(a set of ints), however many -/
theorem sorted_setA {S : Int → Bool} {n : Nat} {Q : Value → Shared → Prop} (R : SetR w s.heap a S n) (hh : A.handled = none) (hz : n ≤ sizeLine)
    (hQ : ∀ s' p (out : List Value) (c : Nat) (ns : List Int), (∀ b o, s.heap.get? b = some o → s'.heap.get? b = some o) → s'.gens = s.gens → s'.os = s.os → s.heap.objs.size ≤ p →
      s'.heap.get? p = some (seqObj "list" out.toArray c) → IntsAre out ns → ns.Pairwise (· < ·) → (∀ k, k ∈ ns ↔ S k = true) → ns.length = n → Q (.ref p) s') :
    wpAny (model P w) A (call (.builtin "sorted") [.ref a]) Q E s := by
  obtain ⟨o, es, ep, t, ho, hex, hd, g, nd, hm, hb, hf, hn, hr, hl⟩ := R
  refine Calls.call_function_entry kind_sorted plain_sorted entry_sorted (args_sorted1 _) ?_
  unfold Builtin.«sorted»
  refine wpAny_bind (m := checkCount "sorted" 1 1 _) (wpAny_pure ?_)
  refine wpAny_bind (collect_set (A := A.in1) hh ⟨o, ho, hex.1, hd⟩ hf hb hr hl fun s1 vs k1 hz1 g1 o1 pm => ?_)
  have hvl : vs.length = n := by rw [pm.length_eq, List.length_map, Array.length_toList]; exact hn
  have hI : IntsAre vs (vs.map Builtin.Re.reRawOf) := ints_of vs fun v hv => by
    obtain ⟨e, he, q⟩ := List.mem_map.mp (pm.mem_iff.mp hv)
    obtain ⟨k, tk, h1, _⟩ := g e he
    exact ⟨k, tk, by rw [← q]; exact h1⟩
  have pk : (vs.map Builtin.Re.reRawOf).Perm (es.toList.map keyOf) := by
    have q := pm.map Builtin.Re.reRawOf
    rw [List.map_map] at q
    exact q
  refine wpAny_bind (wpAny_newList ?_ (by rw [hvl]; exact hz))
  have hoL : (s1.heap.push (seqObj "list" vs.toArray 0)).get? s1.heap.objs.size = some (seqObj "list" vs.toArray 0) := Heap.get?_push_size _ rfl
  refine wpAny_bind (wpAny_holding (wpAny_call_entry slot_list_sort ⟨_, hoL, rfl⟩ entry_list_sort (SrtO.list_sort_ord SrtO.swo_int hoL (by rw [hvl]; exact hz) (fun h2 => SrtO.ints_sortable hI h2) fun out hs1 hb1 => ⟨_, rfl, ?_⟩) (args_list_sort _)))
  obtain ⟨a1, a2, a3⟩ := SrtO.ints_out hI hs1 hb1
  obtain ⟨c, hc⟩ := sortedHeap_at (vs := vs) (out := out.toArray) hoL
  have pn : (out.map SrtO.iv).Perm (es.toList.map keyOf) := a2.trans pk
  refine wpAny_pure ⟨_, rfl, hQ _ s1.heap.objs.size out c (out.map SrtO.iv) (fun b u e => ?_) g1 o1 hz1 hc a1 (lt_of_le_nodup _ a3 (pn.nodup_iff.mpr nd)) (fun k => by rw [pn.mem_iff, ← hm k]) ?_⟩
  · have q := k1 b u e
    have hlt := Heap.lt_size q
    show (sortedHeap (s1.heap.push (seqObj "list" vs.toArray 0)) s1.heap.objs.size vs out.toArray).get? b = some u
    rw [sortedHeap_old (Nat.ne_of_lt hlt) (by rw [size_push']; exact Nat.lt_succ_of_lt hlt)]
    exact Heap.get?_push_of_some _ q
  · rw [pn.length_eq, List.length_map, Array.length_toList]; exact hn
end
section
variable {X : Cx} {T : Tb} {E : XK} {a b c e tg : Expr} {es : List Expr} {ta tb : DE} {tq : DQ} {pos : Pos}
/-- the same, with the members told once each -/
def rSetK (K : PySem.W.Frag) (w : World) : List V → Hp → VK → Prop := fun xs H Q => ∃ (a : Addr) (ns : List Int) (bb : Bool), xs = [.ref a] ∧ SqA K H a (ns.map V.int) bb ∧ ns.length < 4000 ∧
  ∀ (p : Addr) (ks : List Int), H p = none → ks.Nodup → (∀ k, k ∈ ks ↔ k ∈ ns) → Q (.ref p) (upd H p (SetO w p (fun j => decide (j ∈ ns)) ks.length))
theorem cr_setK (hc : X.calm = true) : CallR X (.type "set") (rSetK X.K X.w) := by
  intro pins s σ H vs us Q I r h
  obtain ⟨a, ns, bb, rfl, hs, hn, q⟩ := h
  rw [Vals.ref1 r]
  have fin : ∀ (h' : Heap) (tk c : Nat), SetR X.w h' s.heap.objs.size (fun j => decide (j ∈ ns)) c → c ≤ ns.length → (∀ b o, s.heap.get? b = some o → h'.get? b = some o) → EP X pins σ Q (.ref s.heap.objs.size) { s with heap := h', toks := tk } := by
    intro h' tk c R hcn k
    obtain ⟨o, es, ep, t, ho, ex, hd, good, nd, hS, hb, hf, hsz, rest⟩ := id R
    have e : (es.toList.map keyOf).length = c := by rw [List.length_map, Array.length_toList]; exact hsz
    subst e
    exact ⟨.ref _, upd H s.heap.objs.size (SetO X.w s.heap.objs.size (fun j => decide (j ∈ ns)) _), I.laid (t' := tk) k (Nat.le_refl _) (setO_new R), rfl, q _ (es.toList.map keyOf) (I.hok.fresh (Nat.le_refl _)) nd fun k => by rw [← hS k]; simp⟩
  cases bb with
  | true =>
    obtain ⟨its, rv, hl, _⟩ := I.list hs
    exact set_of_list ns (I.ok.hd hc) hl.isList (by simpa using rv.ints) (by unfold scanBound; omega) fin
  | false =>
    obtain ⟨its, rv, hl, _⟩ := I.tuple hs
    exact call_set_tupI ns (I.ok.hd hc) (show s.heap.IsTuple a its.toArray from hl) (by simpa using rv.ints) (by unfold scanBound; omega) fin
def rSortedSetA (w : World) : List V → Hp → VK → Prop := fun vs H Q => ∃ (a : Addr) (S : Int → Bool) (n : Nat), vs = [V.ref a] ∧ H a = some (SetO w a S n) ∧ n ≤ sizeLine ∧
  ∀ (ns : List Int) (p : Addr), ns.Pairwise (· < ·) → (∀ k : Int, k ∈ ns ↔ S k = true) → ns.length = n → H p = none → Q (.ref p) (upd H p (.lst (ns.map V.int)))
theorem cr_sortedSetA (hc : X.calm = true) : CallR X (.builtin "sorted") (rSortedSetA X.w) := by
  intro pins s σ H vs us Q I r h
  obtain ⟨a, S, n, rfl, ha, hz, q⟩ := h
  have R := setO_get I ha
  rw [Vals.ref1 r]
  refine sorted_setA R (I.ok.hd hc) hz fun s' p out c ns k g o hp hg hi hs hm hl => ?_
  have hlen : (ns.map V.int).length ≤ sizeLine := by rw [List.length_map, hl]; exact hz
  have hn : H p = none := I.hok.fresh hp
  have J : Inv X pins σ (upd H p (.lst (ns.map V.int))) { s with heap := s'.heap, gens := s'.gens, drawn := s'.drawn, toks := s'.toks } :=
    I.call (ch := []) (Un.laid k hp hn) (I.hok.laid k hp ⟨hlen, out, c, vals_of_ints hi, hg⟩) (by rw [g]; exact I.bare) (fun _ z => nomatch z)
  have e : s' = { s with heap := s'.heap, gens := s'.gens, drawn := s'.drawn, toks := s'.toks } := by
    cases s'
    cases s
    cases o
    rfl
  rw [e]
  exact ⟨.ref p, _, J, rfl, q ns p hs hm hl hn⟩
/-- sorted(set(xs)) -/
@[simp] def dSortSet (tq : DQ) : DA := fun r Q E => tq r (fun _ ds => ∃ ns : List Int, ds = ns.map .int ∧ ns.length < 4000 ∧
  ∀ out : List Int, out.Pairwise (· < ·) → (∀ k, k ∈ out ↔ k ∈ ns) → Q (out.map .int)) E
theorem G_none {H G H' G' : Hp} {l : Addr} (h : HR T H G H' G') (hl : H' l = none) : G' l = none := by
  cases q : G' l with
  | none => rfl
  | some u => rw [h.sub l u q] at hl; cases hl
theorem fn_sortSet {p p2 pos2 : Pos} (hc : X.calm = true) (hg : Gl X "sorted") (hm : X.mg "sorted" = none) (hv : bootBuiltins "sorted" = some (.builtin "sorted")) (hg2 : Gl X "set") (hm2 : X.mg "set" = none) (hv2 : bootBuiltins "set" = some (.type "set")) (ha : FQ X T E e tq)
    (he : starEach [e] X.env = (false, eval e X.env) :: starEach [] X.env := by rfl) (hpl : (backTo pos2 (starEach [] X.env)).any (·.1) = false := by rfl)
    (he2 : starEach [.Call (.Name "set" p2) [e] [] pos2] X.env = (false, eval (.Call (.Name "set" p2) [e] [] pos2) X.env) :: starEach [] X.env := by rfl) (hpl2 : (backTo pos (starEach [] X.env)).any (·.1) = false := by rfl) :
    FN X T E (.Call (.Name "sorted" p) [.Call (.Name "set" p2) [e] [] pos2] [] pos) (dSortSet tq) := by
  refine FN.mk' (pe_callB (cr_sortedSetA hc) hg hm hv (pa_cons (pe_callTy (cr_setK hc) hg2 hm2 hv2 (pa_cons ha.pe pa_nil he) (by decide) (by decide) he hpl) pa_nil he2) (by decide) (by decide) he2 hpl2) fun sg H Q ⟨H0, G0, r, G, Qd, Ed, h, er, w, k, x⟩ => ?_
  refine ⟨H0, G0, r, G, _, Ed, h, er, w, fun b ds a vs H1 G1 h1 sq p1 ⟨ns, e, hn, q⟩ => ?_, x⟩
  subst e
  have ev := p1.ofInts
  subst ev
  refine ⟨a, ns, b, rfl, sq, hn, fun s0 ks hs0 nd hks => ?_⟩
  refine ⟨s0, _, _, rfl, upd_same, by rw [sizeLine_eq]; have := nd_len nd fun x hx => (hks x).mp hx; omega, fun out l hpw hmem _ hl => ?_⟩
  have z1 := h1.trans (h1.laidO (o := SetO X.w s0 (fun j => decide (j ∈ ns)) ks.length) hs0)
  exact k (out.map .int) l (out.map V.int) _ G1 (z1.trans (z1.laidO hl)) ((NT.none hl).back z1.ext) upd_same (G_none z1 hl) (DpAll.ints out) (q out hpw fun k => by rw [hmem k]; simp)
/-- sorted(xs), ints -/
@[simp] def dSortI (tq : DQ) : DA := fun r Q E => tq r (fun b ds => b = true ∧ ∃ ns : List Int, ds = ns.map .int ∧ ∀ out : List Int, out.Perm ns → out.Pairwise (· ≤ ·) → Q (out.map .int)) E
theorem fn_sortI {p : Pos} (hg : Gl X "sorted") (hm : X.mg "sorted" = none) (hv : bootBuiltins "sorted" = some (.builtin "sorted")) (ha : FQ X T E e tq)
    (he : starEach [e] X.env = (false, eval e X.env) :: starEach [] X.env := by rfl) (hpl : (backTo pos (starEach [] X.env)).any (·.1) = false := by rfl) : FN X T E (.Call (.Name "sorted" p) [e] [] pos) (dSortI tq) := by
  refine FN.mk' (pe_callB cr_sortedI hg hm hv (pa_cons ha.pe pa_nil he) (by decide) (by decide) he hpl) fun sg H Q ⟨H0, G0, r, G, Qd, Ed, h, er, w, k, x⟩ => ?_
  refine ⟨H0, G0, r, G, _, Ed, h, er, w, fun b ds a vs H1 G1 h1 sq p1 ⟨hb, ns, e, q⟩ => ?_, x⟩
  subst hb e
  have ev := p1.ofInts
  subst ev
  refine ⟨a, ns, rfl, sq, fun out l hp hpw hl => ?_⟩
  exact k (out.map .int) l (out.map V.int) _ G1 (h1.trans (h1.laidO hl)) ((NT.none hl).back h1.ext) upd_same (G_none h1 hl) (DpAll.ints out) (q out hp hpw)
end
end Fd
end
section
set_option Elab.async false
set_option linter.all false
set_option maxRecDepth 100000
set_option autoImplicit false
set_option maxHeartbeats 4000000
/-! FdV: sorted(..) of a list or tuple of data. -/
namespace Fd
open PySem PySem.Spec PyProof.Rows L2 LamX
open PySem.F PySem.W
section
variable {P : Program} {w : World} {A : Around} {E : Value → Shared → Prop} {s : Shared}
/-- the items of a list or tuple, collected: the heap has one object more -/
theorem collect_sz {it : Addr} {Ty : String} {o : Obj} {items : Array Value} {n : Nat} {Q : List Value → Shared → Prop} (hT : Ty = "list" ∨ Ty = "tuple") (ho : s.heap.get? it = some o) (hc : o.cls = .type Ty) (hd : o.data = .seq items n)
    (hQ : ∀ h' : Heap, (∀ b o', s.heap.get? b = some o' → h'.get? b = some o') → h'.objs.size = s.heap.objs.size + 1 → Q items.toList { s with heap := h' }) (hsz : items.size ≤ sizeLine) : wpAny (model P w) A (collect (.ref it)) Q E s := by
  let h0 : Heap := s.heap.push { cls := .type "list", data := .seq ([] : List Value).toArray }
  have hS : h0.get? s.heap.objs.size = some { cls := .type "list", data := .seq #[] 0 } := Heap.get?_push_size _ rfl
  let h1 : Heap := h0.update s.heap.objs.size (Obj.mapSeq (· ++ items))
  have hS2 : h1.get? s.heap.objs.size = _ := Heap.get?_update_self (Obj.mapSeq (· ++ items)) hS rfl
  have last : Q ((#[] : Array Value) ++ items).toList { s with heap := h1 } := by
    rw [show ((#[] : Array Value) ++ items).toList = items.toList by simp]
    exact hQ h1 (fun b o' hb => (Heap.get?_update_other _ _ (Nat.ne_of_gt (Heap.lt_size hb))).trans (Heap.get?_push_of_some _ hb)) (by show (h0.update _ _).objs.size = _; rw [Heap.size_update]; exact Heap.size_push ..)
  unfold collect
  refine wpAny_bind (wpAny_runValue (codeAny_builtin F.entry_proto_collect ?_)); rw [Around.under_plainId F.plain_proto_collect _]
  refine (show wpAny _ A.in1 (newList [] >>= fun l => again (.builtin "list.__iadd__" ⟨[l, .ref it], []⟩)) _ _ s from wpAny_bind (wpAny_newObj_type (wpAny_pure ⟨plainId_quiet F.plain_list_iadd _, codeAny_builtin F.entry_list_iadd ?_⟩))); rw [Around.under_plainId F.plain_list_iadd _]
  have after : wpAny (model P w) A (match Value.ref s.heap.objs.size with | Value.ref a => do (match (← load a).data with | Data.seq xs _ => pure xs.toList | _ => unsupported "internal:collect") | _ => unsupported "internal:collect") Q E { s with heap := h1 } :=
    show wpAny _ A (load s.heap.objs.size >>= _) _ _ _ from wpAny_bind (wpAny_load hS2 (wpAny_pure last))
  refine wpAny_mono (wpAny_extend_seq (hsz := hsz) (A := A) (R := fun r s' => r = .ok (.ret (.ref s.heap.objs.size)) ∧ s' = { s with heap := h1 }) (s := { s with heap := h0 }) _ it _ 0 hT hS (Heap.get?_push_of_some _ ho) hc hd ⟨rfl, rfl⟩) (fun fin s' h => ?_) (fun e s' h => absurd h.1 (by simp))
  cases fin with
  | done f => obtain ⟨e, rfl⟩ := h; cases e; exact after
  | again c' => exact ⟨h.1, codeAny_mono h.2 fun r s'' hr => by obtain ⟨rfl, rfl⟩ := hr; exact after⟩
theorem sorted_seq {β : Type} {it : Addr} {Ty : String} {o : Obj} {vs : List Value} {n : Nat} {bs : List β} {R : Value → β → Prop} {enc : β → PyData} {Q : Value → Shared → Prop} (hT : Ty = "list" ∨ Ty = "tuple") (ho : s.heap.get? it = some o) (hc : o.cls = .type Ty) (hd : o.data = .seq vs.toArray n)
    (e : EachIs R vs bs) (er : EachIs (fun v b => ∃ as, Reads s.heap v (enc b) as) vs bs) (hal : AllAlike (bs.map enc)) (hk : Sortable (bs.map enc)) (hL : bs.length ≤ sizeLine) (hu : ∀ b, b ∈ bs → A.units + 2 + (enc b).depth < cLine)
    (h : ∀ (h' : Heap) (p : Addr) (out : List Value) (c : Nat), (∀ b o, s.heap.get? b = some o → h'.get? b = some o) → s.heap.objs.size ≤ p → h'.get? p = some (seqObj "list" out.toArray c) → EachIs R out (bs.mergeSort (dataLe false enc)) → Q (.ref p) { s with heap := h' }) :
    wpAny (model P w) A (call (.builtin "sorted") [.ref it]) Q E s := by
  have hvl : vs.length ≤ sizeLine := by rw [e.length]; exact hL
  refine Calls.call_function_entry kind_sorted plain_sorted entry_sorted (args_sorted1 _) ?_
  unfold Builtin.«sorted»
  refine wpAny_bind (m := checkCount "sorted" 1 1 _) (wpAny_pure (wpAny_bind (collect_sz hT ho hc hd (fun h' k1 hsz' => ?_) (by simpa using hvl))))
  have hoL : (h'.push (seqObj "list" vs.toArray 0)).get? h'.objs.size = some (seqObj "list" vs.toArray 0) := Heap.get?_push_size _ rfl
  have k2 : ∀ b u, s.heap.get? b = some u → (sortingHeap (h'.push (seqObj "list" vs.toArray 0)) h'.objs.size vs).get? b = some u := fun b u q => by
    have q1 := k1 b u q
    exact sortingHeap_old (Nat.ne_of_lt (Heap.lt_size q1)) (Heap.get?_push_of_some _ q1)
  have er' : EachIs (fun v b => ∃ as, Reads (sortingHeap (h'.push (seqObj "list" vs.toArray 0)) h'.objs.size vs) v (enc b) as) vs bs := er.mono fun _ _ ⟨as, r⟩ => ⟨as, PyProof.Rows.Reads.keeps k2 r⟩
  have S := SortsAt.data (prog := P) (w := w) (A := A.in1.in1) (s := { s with heap := sortingHeap (h'.push (seqObj "list" vs.toArray 0)) h'.objs.size vs }) (each_map (R := fun v d => ∃ as, Reads (sortingHeap (h'.push (seqObj "list" vs.toArray 0)) h'.objs.size vs) v d as) enc er') hal hk (bound_map hu)
  refine wpAny_bind (wpAny_newList ?_ hvl)
  refine wpAny_bind (wpAny_holding (wpAny_call_entry F.slot_list_sort ⟨_, hoL, rfl⟩ F.entry_list_sort (list_sort_vals (s := { s with heap := h'.push (seqObj "list" vs.toArray 0) }) hoL S hvl ⟨_, rfl, ?_⟩) (args_list_sort _)))
  obtain ⟨c, hcc⟩ := sortedHeap_at (vs := vs) (out := (sortVals (dataKind (sortingHeap (h'.push (seqObj "list" vs.toArray 0)) h'.objs.size vs) (bs.map enc)) false vs vs).toArray) hoL
  have hle : s.heap.objs.size ≤ h'.objs.size := by rw [hsz']; exact Nat.le_succ _
  refine wpAny_pure ⟨_, rfl, h _ h'.objs.size _ c (fun b u q => ?_) hle hcc (sortVals_data false e er' hal)⟩
  have q1 := k1 b u q
  have hlt := Heap.lt_size q1
  show (sortedHeap (h'.push (seqObj "list" vs.toArray 0)) h'.objs.size vs _).get? b = some u
  rw [sortedHeap_old (Nat.ne_of_lt hlt) (by rw [size_push']; exact Nat.lt_succ_of_lt hlt)]
  exact Heap.get?_push_of_some _ q1
end
section
variable {X : Cx} {T : Tb} {E : XK} {a b c e tg : Expr} {es : List Expr} {ta tb : DE} {tq : DQ} {pos : Pos}
def rSortD (K : PySem.W.Frag) : List V → Hp → VK → Prop := fun xs H Q => ∃ (a : Addr) (vs : List V) (ds : List PyData) (bb : Bool), xs = [.ref a] ∧ SqA K H a vs bb ∧ DpAll K H vs ds ∧ AllAlike ds ∧ Sortable ds ∧ ds.length ≤ sizeLine ∧ (∀ d ∈ ds, d.depth ≤ 60) ∧
  ∀ p : Addr, H p = none → Q (.ref p) (upd H p (.lst (((vs.zip ds).mergeSort (dataLe false fun q : V × PyData => q.2)).map (·.1))))
theorem zip_snd {A B : Type} : ∀ {l : List A} {m : List B}, l.length = m.length → (l.zip m).map (·.2) = m
  | [], [], _ => rfl
  | _ :: l, _ :: m, h => by simp [zip_snd (l := l) (m := m) (by simpa using h)]
theorem each_rel {K : PySem.W.Frag} {H : Hp} {pins : List (Addr × Obj)} {σ : L2.St} {s : Shared} (I : Inv X pins σ H s) (hK : K = X.K) : ∀ {vs : List V} {its : List Value} {ds : List PyData}, Vals vs its → DpAll K H vs ds → EachIs (fun u (q : V × PyData) => RelV q.1 u) its (vs.zip ds) ∧ EachIs (fun u (q : V × PyData) => ∃ as, Reads s.heap u q.2 as) its (vs.zip ds)
  | _, _, _, .nil, .nil => ⟨.nil, .nil⟩
  | _, _, _, .cons r t, .cons d ds => by
    have ih := each_rel I hK t ds
    subst hK
    exact ⟨.cons r ih.1, .cons (Dp.reads I _ _ _ d r) ih.2⟩
theorem vals_each : ∀ {out : List Value} {zs : List (V × PyData)}, EachIs (fun u (q : V × PyData) => RelV q.1 u) out zs → Vals (zs.map (·.1)) out
  | _, _, .nil => .nil
  | _, _, .cons r t => .cons r (vals_each t)
theorem cr_sortD (hu : X.A.units + 65 < cLine) : CallR X (.builtin "sorted") (rSortD X.K) := by
  intro pins s σ H vs us Q I r h
  obtain ⟨a, xs, ds, bb, rfl, hs, hd, hal, hk, hL, hdep, q⟩ := h
  rw [Vals.ref1 r]
  have hxl := hd.len
  have es : (xs.zip ds).map (·.2) = ds := zip_snd hxl
  have hzl : (xs.zip ds).length ≤ sizeLine := by rw [List.length_zip]; omega
  obtain ⟨its, o, n, Ty, hT, rv, ho, hc, hdt⟩ : ∃ (its : List Value) (o : Obj) (n : Nat) (Ty : String), (Ty = "list" ∨ Ty = "tuple") ∧ Vals xs its ∧ s.heap.get? a = some o ∧ o.cls = .type Ty ∧ o.data = .seq its.toArray n := by
    cases bb with
    | true =>
      obtain ⟨its, rv, hl, _⟩ := I.list hs
      obtain ⟨o, ho, hc, n, hdt⟩ := hl.isList
      exact ⟨its, o, n, _, .inl rfl, rv, ho, hc, hdt⟩
    | false =>
      obtain ⟨its, rv, hl, _⟩ := I.tuple hs
      obtain ⟨o, ho, hc, n, hdt⟩ := hl
      exact ⟨its, o, n, _, .inr rfl, rv, ho, hc, hdt⟩
  obtain ⟨e1, e2⟩ := each_rel I rfl rv hd
  refine sorted_seq (R := fun u (q : V × PyData) => RelV q.1 u) (enc := fun q : V × PyData => q.2) hT ho hc hdt e1 e2 (by rw [es]; exact hal) (by rw [es]; exact hk) hzl (fun z hz => ?_) fun h' p out c k hp hg he => ?_
  · have : z.2 ∈ ds := by rw [← es]; exact List.mem_map.mpr ⟨z, hz, rfl⟩
    have := hdep _ this
    omega
  · have hlen : (((xs.zip ds).mergeSort (dataLe false fun q : V × PyData => q.2)).map (·.1)).length ≤ sizeLine := by rw [List.length_map, (List.mergeSort_perm _ _).length_eq]; exact hzl
    exact ⟨.ref p, upd H p (.lst (((xs.zip ds).mergeSort (dataLe false fun q : V × PyData => q.2)).map (·.1))), I.laid (t' := s.toks) k hp ⟨hlen, out, c, vals_each he, hg⟩, rfl, q p (I.hok.fresh hp)⟩
/-- sorted(xs) of data: the same things in a rising order -/
@[simp] def dSortD (tq : DQ) : DA := fun r Q E => tq r (fun _ ds => AllAlike ds ∧ Sortable ds ∧ ds.length ≤ sizeLine ∧ (∀ d ∈ ds, d.depth ≤ 60) ∧ ∀ out : List PyData, out.Perm ds → out.Pairwise (fun a b => dataLt b a = false) → Q out) E
theorem dpAll_of_zip {K : PySem.W.Frag} {G : Hp} : ∀ {vs : List V} {ds : List PyData}, DpAll K G vs ds → ∀ q ∈ vs.zip ds, Dp K G q.1 q.2
  | _, _, .nil, q, h => by cases h
  | _, _, .cons d t, q, h => by
    rcases List.mem_cons.mp h with rfl | h
    · exact d
    · exact dpAll_of_zip t q h
theorem dpAll_pairs {K : PySem.W.Frag} {G : Hp} : ∀ {zs : List (V × PyData)}, (∀ q ∈ zs, Dp K G q.1 q.2) → DpAll K G (zs.map (·.1)) (zs.map (·.2))
  | [], _ => .nil
  | q :: zs, h => .cons (h q (List.mem_cons_self ..)) (dpAll_pairs fun z hz => h z (List.mem_cons_of_mem _ hz))
theorem fn_sortD {p : Pos} (hu : X.A.units + 65 < cLine) (hg : Gl X "sorted") (hm : X.mg "sorted" = none) (hv : bootBuiltins "sorted" = some (.builtin "sorted")) (ha : FQ X T E e tq)
    (he : starEach [e] X.env = (false, eval e X.env) :: starEach [] X.env := by rfl) (hpl : (backTo pos (starEach [] X.env)).any (·.1) = false := by rfl) : FN X T E (.Call (.Name "sorted" p) [e] [] pos) (dSortD tq) := by
  refine FN.mk' (pe_callB (cr_sortD hu) hg hm hv (pa_cons ha.pe pa_nil he) (by decide) (by decide) he hpl) fun sg H Q ⟨H0, G0, r, G, Qd, Ed, h, er, w, k, x⟩ => ?_
  refine ⟨H0, G0, r, G, _, Ed, h, er, w, fun b ds a vs H1 G1 h1 sq p1 ⟨hal, hk, hL, hdep, q⟩ => ?_, x⟩
  refine ⟨a, vs, ds, b, rfl, sq, p1.up h1.sub, hal, hk, hL, hdep, fun l hl => ?_⟩
  have es : (vs.zip ds).map (·.2) = ds := zip_snd p1.len
  have TL := sortLe_total (listOrd itemOrd) false fun q : V × PyData => keyToks q.2
  have hp := List.mergeSort_perm (vs.zip ds) (dataLe false fun q : V × PyData => q.2)
  have hpw : ((vs.zip ds).mergeSort (dataLe false fun q : V × PyData => q.2)).Pairwise (fun a b => dataLe false (fun q : V × PyData => q.2) a b = true) := List.pairwise_mergeSort (fun a b c => TL.trans a b c) (fun a b => by rw [Bool.or_eq_true]; exact TL.total a b) _
  refine k _ l _ _ G1 (h1.trans (h1.laidO hl)) ((NT.none hl).back h1.ext) upd_same (G_none h1 hl) (dpAll_pairs fun z hz => dpAll_of_zip p1 z (hp.mem_iff.mp hz)) (q _ ?_ ?_)
  · have := hp.map (·.2)
    rw [es] at this
    exact this
  · rw [List.pairwise_map]
    refine hpw.imp fun {a b} hab => ?_
    have : (!dataLt b.2 a.2) = true := hab
    simpa using this
end
end Fd
end
section
set_option Elab.async false
set_option linter.all false
set_option maxRecDepth 100000
set_option autoImplicit false
set_option maxHeartbeats 4000000
/-! FdW: min of a tuple of ints. -/
namespace Fd
open PySem PySem.Spec PyProof.Rows L2 LamX
section
variable {P : Program} {w : World} {A : Around} {E : Value → Shared → Prop} {s : Shared} {l : Addr}
theorem min_tup {its : List Value} {ns : List Int} {Q : Value → Shared → Prop} (hh : A.handled = none) (hl : s.heap.IsTuple l its.toArray) (hi : IntsAre its ns) (hne : 0 < ns.length)
    (h : ∀ h' tk M t', (∀ b o, s.heap.get? b = some o → h'.get? b = some o) → M ∈ ns → (∀ a, a ∈ ns → M ≤ a) → Q (.int M t') { s with heap := h', toks := tk }) : wpAny (model P w) A (call (.builtin "min") [.ref l]) Q E s := by
  obtain ⟨xs, e⟩ := hi.allInts.items
  have hn : numsOf (intItems xs).toList = ns := by rw [← e]; exact hi.numsOf
  rw [nums_intItems] at hn; subst hn; rw [e] at hl
  have hsz : 0 < xs.size := by simpa using hne
  have hlt : l < s.heap.objs.size := by obtain ⟨_, z, _⟩ := hl; exact Heap.lt_size z
  refine call_min_walk (wpAny_pyIter_tuple hl ?_)
  refine ⟨_, _, _, _, _, _, _, rfl, Walks.tuple (A := A.in1) hh _ l (Nat.ne_of_lt hlt) (intItems xs), ⟨⟨_, Heap.get?_push_size _ rfl, rfl, rfl⟩, hl.push _⟩, fun b hb => ?_, by simpa [intItems] using hsz, CmpOf.ints_lt (numAt xs) (fun _ _ => intItems_at), fun v h' tk hP hk => ?_⟩
  · show b < (s.heap.push _).objs.size
    rw [Heap.size_push]
    rcases List.mem_cons.mp hb with rfl | hb
    · exact Nat.lt_succ_self _
    · rcases List.mem_cons.mp hb with rfl | hb
      · exact Nat.lt_succ_of_lt hlt
      · cases hb
  · have hk' : ∀ b o, s.heap.get? b = some o → h'.get? b = some o := fun b o z => hk b o (fun hm => by
      rcases List.mem_cons.mp hm with e1 | hm
      · exact absurd (e1 ▸ Heap.lt_size z) (Nat.lt_irrefl _)
      · cases hm) (Heap.get?_push_of_some _ z)
    have hv : (intItems xs)[argBest (fun i j => decide (numAt xs i < numAt xs j)) (xs.size - 1)]? = some v := by simpa [intItems] using hP
    obtain ⟨t, rfl⟩ := intItems_at hv
    obtain ⟨h1, h2⟩ := argBest_lt (numAt xs) (xs.size - 1)
    refine h h' tk _ t hk' ?_ fun a ha => ?_
    · rw [numAt_eq]; exact PySem.getD_mem (by rw [List.length_map, Array.length_toList]; omega)
    · obtain ⟨j, hj, rfl⟩ := mem_getD ha
      rw [List.length_map, Array.length_toList] at hj; rw [← numAt_eq]; exact h2 j (by omega)
end
section
variable {X : Cx} {T : Tb} {K : PySem.W.Frag}
def rMinA (K : PySem.W.Frag) : List V → Hp → VK → Prop := fun vs H Q => ∃ (a : Addr) (ns : List Int) (bb : Bool), vs = [V.ref a] ∧ SqA K H a (ns.map V.int) bb ∧ 0 < ns.length ∧ ∀ m, m ∈ ns → (∀ y, y ∈ ns → m ≤ y) → Q (.int m) H
theorem cr_minA (hc : X.calm = true) : CallR X (.builtin "min") (rMinA X.K) := by
  intro pins s σ H vs us Q I r h
  obtain ⟨a, ns, bb, rfl, hs, hne, q⟩ := h
  cases bb with
  | true => exact cr_min hc pins s σ H _ us Q I r ⟨a, ns, rfl, hs, hne, q⟩
  | false =>
    obtain ⟨its, rv, hl, _⟩ := I.tuple hs
    rw [Vals.ref1 r]
    exact min_tup (I.ok.hd hc) hl rv.ints hne fun h' tk m t' hk h1 h2 => ⟨.int _, H, I.kept hk, ⟨_, rfl⟩, q m h1 h2⟩
@[simp] def dMinA : Bool → List PyData → M PyData := fun _ ds Q _ => ∃ ns : List Int, ds = ns.map .int ∧ 0 < ns.length ∧ ∀ m, m ∈ ns → (∀ y, y ∈ ns → m ≤ y) → Q (.int m)
theorem sd_minA : SeqD K T (rMinA K) dMinA := by
  intro a vs b ds H G Qd Ed Q h sq p ⟨ns, e, h0, w⟩ k
  subst e
  have ev := p.ofInts
  subst ev
  exact ⟨a, ns, b, rfl, sq, h0, fun m h1 h2 => k _ _ H G h (.int _) (w m h1 h2)⟩
end
end Fd
end
section
set_option Elab.async false
set_option linter.all false
set_option maxRecDepth 100000
set_option autoImplicit false
set_option maxHeartbeats 4000000
/-! FdX: enumerate(a tuple). -/
namespace Fd
open PySem PySem.Spec PyProof.Rows L2 LamX
open PySem.W
theorem enum_new1 {v : Value} {o : Obj} {H : Heap → Prop} (B : Begins v o H) :
    Meets (Builtin.«enumerate.__new__» ⟨[.type "enumerate", v], []⟩) (fun _ R s => H s.heap ∧ R (.ok (.ret (.ref (s.heap.push o).objs.size))) { s with heap := (s.heap.push o).push { cls := .type "enumerate", data := .fields #[.none, .bool false, .ref s.heap.objs.size, rawInt 0, .none, .none] } }) :=
  .of_wp fun prog w A R s h => by
    obtain ⟨hp, g, d, tk, os⟩ := s; obtain ⟨h1, h⟩ := h; have hsub := sub_enumerate
    have go : ∀ {A' : Around} {E : Value → Shared → Prop} {Q : Value → Shared → Prop}, Q (.ref hp.objs.size) ⟨hp.push o, g, d, tk, os⟩ → wpAny (model prog w) A' (pyIter v) Q E ⟨hp, g, d, tk, os⟩ := fun q => B.iter prog w _ _ ⟨hp, g, d, tk, os⟩ _ h1 q
    wp_walk using go
    refine wpAny_stack_any fun st => wpAny_pure ?_
    split
    · rename_i c _ _ _ _ _
      cases (c == Value.type "enumerate") <;> (wp_walk using go; exact ⟨_, rfl, h⟩)
    · wp_walk using go
      exact ⟨_, rfl, h⟩
section
variable {P : Program} {w : World} {A : Around} {E : Value → Shared → Prop} {s : Shared}
theorem enum_tuple {l : Addr} {items : Array Value} {Q : Value → Shared → Prop} (hL : s.heap.IsTuple l items)
    (h : ∀ h', IsEnum h' (s.heap.objs.size + 1) s.heap.objs.size 0 .none → h'.IsTupleIter s.heap.objs.size l 0 → h'.objs.size = s.heap.objs.size + 2 → (∀ b o, s.heap.get? b = some o → h'.get? b = some o) → Q (.ref (s.heap.objs.size + 1)) { s with heap := h' }) :
    wpAny (model P w) A (call (.type "enumerate") [.ref l]) Q E s := by
  let o : Obj := { cls := .type "tuple_iterator", data := .fields #[.ref l, .int 0 0] }
  have B := begins_tuple l items
  refine callType_new F.called_enumerate (by decide) (F.typeCall_enumerate_1 _) (F.newCall_enumerate_1 _) (fun obj => F.args_object_init_2 obj _) F.entry_enumerate_new (enum_new1 B) ⟨hL, ?_⟩
  have hz : (s.heap.push o).objs.size = s.heap.objs.size + 1 := Heap.size_push ..
  show _ ∧ _
  rw [show (s.heap.push { cls := .type "tuple_iterator", data := .fields #[.ref l, .int 0 0] }).objs.size = s.heap.objs.size + 1 from hz]
  have he : IsEnum ((s.heap.push o).push { cls := .type "enumerate", data := .fields #[.none, .bool false, .ref s.heap.objs.size, rawInt 0, .none, .none] }) (s.heap.objs.size + 1) s.heap.objs.size 0 .none := by
    have z := Heap.get?_push_size (s.heap.push o) (o := { cls := .type "enumerate", data := .fields #[.none, .bool false, .ref s.heap.objs.size, rawInt 0, .none, .none] }) rfl
    rw [hz] at z; exact z
  exact ⟨⟨_, he, rfl⟩, h _ he ⟨_, Heap.get?_push_of_some _ (Heap.get?_push_size _ rfl), rfl, rfl⟩ (by rw [Heap.size_push, hz]) fun b o x => Heap.get?_push_of_some _ (Heap.get?_push_of_some _ x)⟩
end
/-- a tuple's iterator that has come to the end -/
theorem draws_end {P : Program} {w : World} {A : Around} (hh : A.handled = none) (it t : Addr) (items : Array Value) (i : Nat) (hi : items.size ≤ i) : Draws P w A it [it, t] i (fun _ _ => False) (fun j h => j = i ∧ h.IsTupleIter it t i ∧ h.IsTuple t items) where
  live := fun _ _ st => let ⟨o, ho, _⟩ := st.2.1; ⟨o, ho⟩
  frame := fun _ _ _ st hk => ⟨st.1, st.2.1.at fun o e => hk it (by simp) o e, st.2.2.at fun o e => hk t (by simp) o e⟩
  item := fun j s Q E hj st hQ => absurd st.1 (Nat.ne_of_lt hj)
  done := fun s Q E st hE => wpAny_nextOf_tuple_end hh st.2.1 st.2.2 (Array.getElem?_eq_none hi) hE
/-- the tuple at a, each item in a new pair -/
def IteT (K : PySem.W.Frag) (a : Addr) : It :=
  ⟨fun i H => ∃ (xs : List V) (x : V), SqT K H a xs ∧ xs[i]? = some x, fun i H v H' => ∃ T x, v = .ref T ∧ H T = none ∧ H' = upd H T (.tup [.int (i : Nat), x]) ∧ ∀ xs, SqT K H a xs → xs[i]? = some x, fun i H => ∃ xs : List V, SqT K H a xs ∧ xs.length ≤ i⟩
theorem turn_enumT {P : Program} {w : World} {K : PySem.W.Frag} {elts : List Expr} {kk : Nat} {tpos : Pos} (a e it : Addr) :
    Turn P w K (.Tuple elts kk tpos) (IteT K a) [e, it] e (fun i h => (∃ old, IsEnum h e it ((i : Nat) : Int) old) ∧ h.IsTupleIter it a i ∧ e ≠ it ∧ a ≠ it ∧ e ≠ a) where
  mem := by simp
  obj := fun i h st b hb => by
    obtain ⟨⟨old, he⟩, ⟨o, ho, hc, hd⟩, _⟩ := st
    rcases List.mem_cons.mp hb with rfl | hb
    · exact ⟨_, he, fun v q => nomatch q⟩
    · rcases List.mem_cons.mp hb with rfl | hb
      · exact ⟨o, ho, fun v q => by rw [hd] at q; cases q⟩
      · cases hb
  keep := fun i h h' st k => let ⟨⟨old, he⟩, hi, hn⟩ := st; ⟨⟨old, k e (by simp) _ he⟩, hi.at fun o q => k it (by simp) o q, hn⟩
  item := by
    intro X hP hw hK hc i pins s σ H E I hf st hg
    subst hP hw hK
    obtain ⟨⟨old, he⟩, hit, hne, hai, hea⟩ := st
    obtain ⟨xs, x, hq, hx⟩ := hg
    obtain ⟨its, rv, p, hz⟩ := I.tuple hq
    obtain ⟨u, hu, ru⟩ := rv.get hx
    have hel : e < s.heap.objs.size := Heap.lt_size he
    have hil : it < s.heap.objs.size := by obtain ⟨_, q, _⟩ := hit; exact Heap.lt_size q
    have hlt : i < its.toArray.size := by simpa using (List.getElem?_eq_some_iff.mp hu).1
    refine wpAny_pyNext_enum_itemD (Draws.tuple (A := X.A.in1) (I.ok.hd hc) it a hai its.toArray) he ⟨hit, p⟩ hlt hne (by simp [hne, hea]) fun u' h' tk hu' ho hst' hT hsz hk => ?_
    obtain rfl : u = u' := by simpa [hu] using hu'
    refine ⟨_, rfl, wpAny_letOwnedTupleGo_enum (s := { s with heap := h', toks := tk + 1 }) ho fun h'' he' sb => ?_⟩
    have hT2 : h''.get? s.heap.objs.size = some { cls := .type "tuple", data := .seq #[.int i tk, u] } := (sb.2 _ (Nat.ne_of_gt hel)).trans hT
    have new : ObjOk X.prog X.w (upd H s.heap.objs.size (.tup [.int (i : Nat), x])) h'' s.heap.objs.size (.tup [.int (i : Nat), x]) := ⟨by show 2 ≤ sizeLine; decide, [.int i tk, u], .cons ⟨_, rfl⟩ (.cons ru .nil), ⟨_, hT2, rfl, _, rfl⟩⟩
    have I1 : Inv X pins σ (upd H s.heap.objs.size (.tup [.int (i : Nat), x])) { s with heap := h'', toks := tk + 1 } :=
      I.turnedNew (ch := [e, it]) (fun b ob hb q => (sb.2 b (fun z => hb (by simp [z]))).trans (hk b ob (fun z => hb (by simp [z])) (fun z => hb (by simp [z])) q)) hf (Nat.le_refl _) new
    refine ⟨.ref s.heap.objs.size, _, I1, rfl, ⟨_, x, rfl, I.hok.fresh (Nat.le_refl _), rfl, fun ys hy => by rw [I.tuple_inj hy hq]; exact hx⟩, ⟨⟨u, by rw [show ((i + 1 : Nat) : Int) = (i : Int) + 1 by omega]; exact he'⟩, hst'.1.at fun o q => (sb.2 it (Ne.symm hne)).trans q, hne, hai, hea⟩, fun b hb => ?_⟩
    have hb' : b < s.heap.objs.size := by
      rcases List.mem_cons.mp hb with rfl | hb
      · exact hel
      · rcases List.mem_cons.mp hb with rfl | hb
        · exact hil
        · cases hb
    rw [upd_ne (Nat.ne_of_lt hb')]
    exact (hf b hb).1
  done := by
    intro X hP hw hK hc i pins s σ H E I hf st hg
    subst hP hw hK
    obtain ⟨⟨old, he⟩, hit, hne, hai, hea⟩ := st
    obtain ⟨xs, hq, hx⟩ := hg
    obtain ⟨its, rv, p, hz⟩ := I.tuple hq
    obtain ⟨f0, f1, f2, f3, f4, f5⟩ := hf it (by simp)
    have hl := rv.length
    exact wpAny_pyNext_enum_endD (draws_end (A := X.A.in1) (I.ok.hd hc) it a its.toArray i (by simp; omega)) he ⟨rfl, hit, p⟩ fun h' eb => ⟨rfl, I.turned (t' := s.toks) (fun b o hb q => eb b o hb q) f0 f1 f3 f4 f5⟩
  self := fun A i s Q E st h => let ⟨⟨_, he⟩, _⟩ := st; wpAny_pyIter_enum he h
section
variable {X : Cx} {T : Tb} {E : XK} {K : PySem.W.Frag} {e : Expr} {pos : Pos}
def iEnumT (K : PySem.W.Frag) (ta : TA) : TI := fun σ H R => ta σ H fun vs H1 => ∃ a xs, vs = [.ref a] ∧ SqT K H1 a xs ∧ R (IteT K a) H1
theorem pi_enumT {ta : TA} {p tpos : Pos} {elts : List Expr} {kk : Nat} (hg : Gl X "enumerate") (hm : X.mg "enumerate" = none) (ha : PA X [e] ta) (hs : starEach [e] X.env = [(false, eval e X.env)] := by rfl) : PI X (.Tuple elts kk tpos) (.Call (.Name "enumerate" p) [e] [] pos) (iEnumT X.K ta) := by
  refine ⟨fun pins s σ H R I h => Call_ (ld_blt I hg hm boot_enumerate (PyProof.Rows.callWith_type1 (thn (ha.run pos pins s σ H _ I h) fun us s1 ⟨vs, H1, I1, r1, q1⟩ => ?_) hs rfl))⟩
  obtain ⟨a, xs, ex, hq, q⟩ := q1
  subst ex
  obtain rfl := Vals.ref1 r1
  obtain ⟨its, rv, p', hz⟩ := I1.tuple hq
  have hlt : a < s1.heap.objs.size := by obtain ⟨_, z, _⟩ := p'; exact Heap.lt_size z
  refine enum_tuple p' fun h' he hit hsz hk => wpAny_pyIter_enum he ?_
  have I2 : Inv X pins σ H1 { s1 with heap := h' } := I1.kept (t' := s1.toks) hk
  refine ⟨s1.heap.objs.size + 1, [s1.heap.objs.size + 1, s1.heap.objs.size], _, _, H1, rfl, I2, turn_enumT a (s1.heap.objs.size + 1) s1.heap.objs.size, ⟨⟨.none, he⟩, hit, Nat.succ_ne_self _, Nat.ne_of_lt hlt, Nat.ne_of_gt (Nat.lt_succ_of_lt hlt)⟩, fun b hb => ?_, q⟩
  have hle : s1.heap.objs.size ≤ b := by
    rcases List.mem_cons.mp hb with rfl | hb
    · exact Nat.le_add_right _ _
    · rcases List.mem_cons.mp hb with rfl | hb
      · exact Nat.le_refl _
      · cases hb
  exact I1.fpOk hle (I1.hok.fresh hle)
def enumD (xs : List PyData) : List PyData := (List.range xs.length).map fun i => .tuple [.int (i : Nat), xs.getD i .none]
end
end Fd
end
section
set_option Elab.async false
set_option linter.all false
set_option maxRecDepth 100000
set_option autoImplicit false
set_option maxHeartbeats 4000000
/-! FdY: enumerate over a tuple, as data. -/
namespace Fd
open PySem PySem.Spec PyProof.Rows L2 LamX
section
variable {X : Cx} {T : Tb} {E : XK} {K : PySem.W.Frag} {e : Expr} {pos : Pos}
theorem enumD_length (xs : List PyData) : (enumD xs).length = xs.length := by simp [enumD]
theorem walkD_enumT {a : Addr} {xs : List V} {ds : List PyData} {G1 : Hp} (ha : DpAll K G1 xs ds) : WalkD K T (IteT K a) (enumD ds) G1 (fun H => SqT K H a xs) := by
  have l1 := ha.len
  have lz := enumD_length ds
  refine ⟨fun i H hi q => ⟨xs, xs[i]'(by omega), q, by simp [show i < xs.length by omega]⟩, fun H q => ⟨xs, q, by omega⟩, fun i H G v H' hi q hr sm y => ?_⟩
  obtain ⟨t, x, e1, e2, e3, e4⟩ := y
  subst e1 e3
  obtain ⟨d1, h1, h2⟩ := ha.at (e4 xs q)
  refine ⟨_, .tuple [.int (i : Nat), d1], ?_, hr.laidT e2, .tup (SqT.of upd_same) (.cons (.int _) (.cons (h2.up (sm.trans (hr.laidT e2).g0)) .nil))⟩
  have hil : i < ds.length := by omega
  simp [enumD, hil, List.getD_eq_getElem?_getD, h1]
  exact (List.getElem?_eq_some_iff.mp h1).2
@[simp] def dEnumT (t : DA) : DA := fun r Q E => t r (fun ds => ∃ xs, ds = [.tuple xs] ∧ Q (enumD xs)) E
theorem fi_enumT {ts : DA} {p tpos : Pos} {elts : List Expr} {kk : Nat} (hg : Gl X "enumerate") (hm : X.mg "enumerate" = none) (ha : FA X T E [e] ts) (hs : starEach [e] X.env = [(false, eval e X.env)] := by rfl) : FI X T E true (.Tuple elts kk tpos) (.Call (.Name "enumerate" p) [e] [] pos) (dEnumT ts) := by
  refine FI.mk' (pi_enumT hg hm ha.pa hs) fun sg H R ⟨H0, G0, r, G, Qd, Ed, h, er, w, k, x⟩ => ?_
  refine ⟨H0, G0, r, G, _, Ed, h, er, w, fun ds vs H' G' z p ⟨xs, e1, q⟩ => ?_, x⟩
  subst e1
  cases p with
  | cons pd pt =>
    cases pt
    cases pd with
    | tup hs' ha' => exact ⟨_, _, rfl, sqT_mono z.sub hs', k _ _ _ H' G' z (walkD_enumT ha') (fun H2 ex => sqA_ext (bb := false) ex (sqT_mono z.sub hs')) (fun _ H2 sm => sqT_mono sm hs') q⟩
end
end Fd
end
section
set_option Elab.async false
set_option linter.all false
set_option maxRecDepth 100000
set_option autoImplicit false
set_option maxHeartbeats 4000000
/-! FdD: dicts whose keys are tuples. -/
namespace Fd
open PySem PySem.Spec PyProof.Rows L2 LamX
/-! ### keys -/
mutual
def keyOf : PyData → Option NestedKey
  | .none => some .none
  | .int i => some (.num i)
  | .tuple ds => (keysOf ds).map .tup
  | _ => none
def keysOf : List PyData → Option (List NestedKey)
  | [] => some []
  | d :: ds => match keyOf d, keysOf ds with
    | some k, some ks => some (k :: ks)
    | _, _ => none
end
mutual
theorem keyOf_data : ∀ (d : PyData) (k : NestedKey), keyOf d = some k → k.data = d
  | .none, k, h => by simp [keyOf] at h; subst h; simp [NestedKey.data]
  | .int i, k, h => by simp [keyOf] at h; subst h; simp [NestedKey.data]
  | .tuple ds, k, h => by
    simp only [keyOf] at h
    cases q : keysOf ds with
    | none => rw [q] at h; cases h
    | some ks =>
      rw [q] at h
      simp only [Option.map_some, Option.some.injEq] at h
      subst h
      simp only [NestedKey.data]
      rw [keysOf_data ds ks q]
  | .bool _, k, h => by simp [keyOf] at h
  | .str _, k, h => by simp [keyOf] at h
  | .list _, k, h => by simp [keyOf] at h
  | .dict _, k, h => by simp [keyOf] at h
theorem keysOf_data : ∀ (ds : List PyData) (ks : List NestedKey), keysOf ds = some ks → NestedKey.datas ks = ds
  | [], ks, h => by simp [keysOf] at h; subst h; simp [NestedKey.datas]
  | d :: ds, ks, h => by
    simp only [keysOf] at h
    cases q : keyOf d with
    | none => rw [q] at h; cases h
    | some k =>
      cases q2 : keysOf ds with
      | none => rw [q, q2] at h; cases h
      | some ks2 =>
        rw [q, q2] at h
        simp only [Option.some.injEq] at h
        subst h
        simp only [NestedKey.datas]
        rw [keyOf_data d k q, keysOf_data ds ks2 q2]
end
mutual
theorem keyOf_ok : ∀ (d : PyData) (k : NestedKey), keyOf d = some k → goodK.okK k = true
  | .none, k, h => by simp [keyOf] at h; subst h; simp [goodK.okK]
  | .int i, k, h => by simp [keyOf] at h; subst h; simp [goodK.okK]
  | .tuple ds, k, h => by
    simp only [keyOf] at h
    cases q : keysOf ds with
    | none => rw [q] at h; cases h
    | some ks =>
      rw [q] at h
      simp only [Option.map_some, Option.some.injEq] at h
      subst h
      simp only [goodK.okK]
      exact keysOf_ok ds ks q
  | .bool _, k, h => by simp [keyOf] at h
  | .str _, k, h => by simp [keyOf] at h
  | .list _, k, h => by simp [keyOf] at h
  | .dict _, k, h => by simp [keyOf] at h
theorem keysOf_ok : ∀ (ds : List PyData) (ks : List NestedKey), keysOf ds = some ks → goodK.okKs ks = true
  | [], ks, h => by simp [keysOf] at h; subst h; simp [goodK.okKs]
  | d :: ds, ks, h => by
    simp only [keysOf] at h
    cases q : keyOf d with
    | none => rw [q] at h; cases h
    | some k =>
      cases q2 : keysOf ds with
      | none => rw [q, q2] at h; cases h
      | some ks2 =>
        rw [q, q2] at h
        simp only [Option.some.injEq] at h
        subst h
        simp only [goodK.okKs]
        rw [keyOf_ok d k q, keysOf_ok ds ks2 q2]
        rfl
end
/-- a good key of data -/
def keyD (d : PyData) : Option NestedKey := (keyOf d).filter goodK
theorem keyD_of {d : PyData} {k : NestedKey} (h : keyD d = some k) : keyOf d = some k ∧ goodK k = true := by
  unfold keyD at h
  exact Option.filter_eq_some_iff.mp h
mutual
theorem hash_eq (w : World) : ∀ k : NestedKey, goodK.okK k = true → k.hash w = nhash k
  | .none, _ => by simp [NestedKey.hash, nhash]
  | .num i, _ => by simp [NestedKey.hash, nhash]
  | .text x, h => by simp [goodK.okK] at h
  | .tup ks, h => by
    simp only [goodK.okK] at h
    simp only [NestedKey.hash, nhash]
    rw [hashes_eq w ks h]
theorem hashes_eq (w : World) : ∀ ks : List NestedKey, goodK.okKs ks = true → NestedKey.hashes w ks = nhashes ks
  | [], _ => by simp [NestedKey.hashes, nhashes]
  | k :: ks, h => by
    simp only [goodK.okKs, Bool.and_eq_true] at h
    simp only [NestedKey.hashes, nhashes]
    rw [hash_eq w k h.1, hashes_eq w ks h.2]
end
theorem goodK_of {k : NestedKey} (h : goodK k = true) : goodK.okK k = true ∧ k.depth ≤ 8 ∧ ∃ ks, k = .tup ks := by
  cases k with
  | tup ks =>
    simp only [goodK, Bool.and_eq_true, decide_eq_true_eq] at h
    exact ⟨by simp only [goodK.okK]; exact h.1, h.2, _, rfl⟩
  | _ => simp [goodK] at h
section
variable {X : Cx} {pins : List (Addr × Obj)} {σ : L2.St} {H : Hp} {s : Shared}
mutual
theorem nested_is (I : Inv X pins σ H s) : ∀ (k : NestedKey) (v : V) (u : Value), Dp X.K H v k.data → RelV v u → NestedIs s.heap k u
  | .none, _, _, h, r => by
    simp only [NestedKey.data] at h
    cases h
    cases r
    exact .none
  | .num i, _, _, h, r => by
    simp only [NestedKey.data] at h
    cases h
    obtain ⟨t, rfl⟩ := r
    exact .int i t
  | .text x, _, _, h, r => by
    simp only [NestedKey.data] at h
    cases h
    obtain ⟨t, rfl⟩ := r
    exact .text x t
  | .tup ks, _, _, h, r => by
    simp only [NestedKey.data] at h
    cases h with
    | tup hs ha =>
      cases r
      obtain ⟨its, rv, ⟨o, ho, hc, n, hd⟩, _⟩ := I.tuple hs
      exact .tup ho hc hd (by simpa using nested_all I ks _ its ha rv)
theorem nested_all (I : Inv X pins σ H s) : ∀ (ks : List NestedKey) (vs : List V) (us : List Value), DpAll X.K H vs (NestedKey.datas ks) → Vals vs us → NestedAll s.heap ks us
  | [], _, _, h, r => by
    simp only [NestedKey.datas] at h
    cases h
    cases r
    exact .nil
  | k :: ks, _, _, h, r => by
    simp only [NestedKey.datas] at h
    cases h with
    | cons h1 h2 =>
      cases r with
      | cons r1 r2 => exact .cons (nested_is I k _ _ h1 r1) (nested_all I ks _ _ h2 r2)
end
end
/-! ### dicts, plain -/
abbrev KVs := List (NestedKey × PyData)
def valD (kvs : KVs) (k : NestedKey) : Option PyData := (kvs.find? fun p => decide (p.1 = k)).map (·.2)
def hasK (kvs : KVs) (k : NestedKey) : Bool := (valD kvs k).isSome
def putD (kvs : KVs) (k : NestedKey) (d : PyData) : KVs := if hasK kvs k = true then kvs.map (fun p => if p.1 = k then (p.1, d) else p) else kvs ++ [(k, d)]
theorem putD_keys (kvs : KVs) (k : NestedKey) (d : PyData) : (putD kvs k d).map (·.1) = if hasK kvs k = true then kvs.map (·.1) else kvs.map (·.1) ++ [k] := by
  unfold putD
  split
  · rw [List.map_map]
    apply List.map_congr_left
    intro p _
    by_cases e : p.1 = k <;> simp [e]
  · simp
theorem hasK_mem (kvs : KVs) (k : NestedKey) : hasK kvs k = true ↔ k ∈ kvs.map (·.1) := by
  unfold hasK valD
  rw [Option.isSome_map, List.find?_isSome]
  simp
theorem putD_nodup {kvs : KVs} {k : NestedKey} {d : PyData} (h : (kvs.map (·.1)).Nodup) : ((putD kvs k d).map (·.1)).Nodup := by
  rw [putD_keys]
  split
  · exact h
  · rename_i q
    rw [hasK_mem] at q
    rw [List.nodup_append]
    exact ⟨h, by simp, fun a ha b hb => by simp at hb; subst hb; exact fun e => q (e ▸ ha)⟩
theorem putD_length (kvs : KVs) (k : NestedKey) (d : PyData) : (putD kvs k d).length ≤ kvs.length + 1 := by
  unfold putD
  split <;> simp
section
variable {K : PySem.W.Frag} {G : Hp}
theorem paired_val {kvs : KVs} {xs : List (NestedKey × Addr × Value)} (h : Paired (EnR K G) kvs xs) (k : NestedKey) : (valD kvs k = none ∧ atKey xs k = none) ∨ ∃ d q, valD kvs k = some d ∧ atKey xs k = some q ∧ ∃ v, RelV v q.2 ∧ Dp K G v d := by
  induction h with
  | nil => exact .inl ⟨rfl, rfl⟩
  | @cons a b l₁ l₂ h t ih =>
    obtain ⟨e, h2, v, h3, h4⟩ := h
    unfold valD atKey at *
    by_cases q : b.1 = k
    · refine .inr ⟨a.2, b.2, ?_, ?_, v, h3, h4⟩
      · rw [List.find?_cons_of_pos (by rw [e]; exact decide_eq_true q)]; rfl
      · rw [List.find?_cons_of_pos (p := fun x : NestedKey × Addr × Value => decide (x.1 = k)) (decide_eq_true q)]; rfl
    · rw [List.find?_cons_of_neg (by rw [e]; simpa using q), List.find?_cons_of_neg (by simpa using q)]
      exact ih
theorem paired_has {kvs : KVs} {xs : List (NestedKey × Addr × Value)} (h : Paired (EnR K G) kvs xs) (k : NestedKey) : (atKey xs k).isSome = hasK kvs k := by
  rcases paired_val h k with ⟨a, b⟩ | ⟨d, q, a, b, _⟩ <;> simp [hasK, a, b]
theorem paired_map {kvs : KVs} {xs : List (NestedKey × Addr × Value)} (h : Paired (EnR K G) kvs xs) {k : NestedKey} {d : PyData} {u : Value} {v : V} (rv : RelV v u) (hd : Dp K G v d) : Paired (EnR K G) (kvs.map (fun p => if p.1 = k then (p.1, d) else p)) (xs.map (putAt k u)) := by
  induction h with
  | nil => exact .nil
  | @cons x y l₁ l₂ h t ih =>
    refine .cons ?_ ih
    obtain ⟨e, h2, w, h3, h4⟩ := h
    show EnR K G (if x.1 = k then (x.1, d) else x) (if y.1 = k then (y.1, y.2.1, u) else y)
    by_cases q : y.1 = k
    · rw [if_pos q, if_pos (e.trans q)]
      exact ⟨e, h2, v, rv, hd⟩
    · rw [if_neg q, if_neg (fun z => q (e.symm.trans z))]
      exact ⟨e, h2, w, h3, h4⟩
theorem paired_snoc {A B : Type} {R : A → B → Prop} {l : List A} {m : List B} {a : A} {b : B} (h : Paired R l m) (r : R a b) : Paired R (l ++ [a]) (m ++ [b]) := by
  induction h with
  | nil => exact .cons r .nil
  | cons h t ih => exact .cons h ih
theorem paired_put {kvs : KVs} {xs : List (NestedKey × Addr × Value)} (h : Paired (EnR K G) kvs xs) {k : NestedKey} {d : PyData} {a : Addr} {u : Value} {v : V} (hk : Dp K G (.ref a) k.data) (rv : RelV v u) (hd : Dp K G v d) : Paired (EnR K G) (putD kvs k d) (storedH xs k a u) := by
  have e := paired_has h k
  unfold putD storedH
  rw [e]
  split
  · exact paired_map h rv hd
  · exact paired_snoc h ⟨rfl, hk, v, rv, hd⟩
theorem paired_len {A B : Type} {R : A → B → Prop} {l : List A} {m : List B} (h : Paired R l m) : l.length = m.length := by
  induction h with
  | nil => rfl
  | cons _ _ ih => simp [ih]
theorem paired_keys {kvs : KVs} {xs : List (NestedKey × Addr × Value)} (h : Paired (EnR K G) kvs xs) : kvs.map (·.1) = xs.map (·.1) := by
  induction h with
  | nil => rfl
  | cons h _ ih => simp [ih, h.1]
end
end Fd
end
section
set_option Elab.async false
set_option linter.all false
set_option maxRecDepth 100000
set_option autoImplicit false
set_option maxHeartbeats 4000000
/-! FdE: dicts whose keys are tuples: the rules. -/
namespace Fd
open PySem PySem.Spec PyProof.Rows L2 LamX
/-- the entries' keys are there -/
structure DKs (K : PySem.W.Frag) (H : Hp) (xs : List (NestedKey × Addr × Value)) : Prop where
  keys : ∀ x ∈ xs, Dp K H (.ref x.2.1) x.1.data ∧ goodK x.1 = true
  nd : (xs.map (·.1)).Nodup
theorem dks_of {K : PySem.W.Frag} {G H : Hp} {kvs : KVs} {xs : List (NestedKey × Addr × Value)} (h : Paired (EnR K G) kvs xs) (sm : Same G H) (nd : (kvs.map (·.1)).Nodup) (gd : ∀ x ∈ kvs, goodK x.1 = true) : DKs K H xs := by
  refine ⟨?_, by rw [← paired_keys h]; exact nd⟩
  clear nd
  induction h with
  | nil => intro x hx; cases hx
  | @cons a b l₁ l₂ h t ih =>
    intro x hx
    rcases List.mem_cons.mp hx with rfl | hx
    · obtain ⟨e, h2, _⟩ := h
      rw [← e]
      exact ⟨h2.up sm, gd a (List.mem_cons_self ..)⟩
    · exact ih (fun x hx => gd x (List.mem_cons_of_mem _ hx)) x hx
section
variable {X : Cx} {pins : List (Addr × Obj)} {σ : L2.St} {H : Hp} {s : Shared}
theorem key_is (I : Inv X pins σ H s) {k : NestedKey} {a : Addr} (h : Dp X.K H (.ref a) k.data) (g : goodK k = true) : (nestedKind X.prog X.w).is s.heap k a := ⟨nested_is I k (.ref a) (.ref a) h rfl, (goodK_of g).2.1⟩
theorem dict_of (I : Inv X pins σ H s) {p : Addr} {xs : List (NestedKey × Addr × Value)} (hp : H p = some (DcO p xs)) (d : DKs X.K H xs) : (p == sysModules) = false ∧ s.heap.DictOfH (nestedKind X.prog X.w) p xs := by
  obtain ⟨⟨h1, o, es, ep, h2, h3, h4, h5⟩, _⟩ := (show ObjOk X.prog X.w H s.heap p (DcO p xs) from I.hok p _ hp)
  refine ⟨h1, o, es, ep, h2, h3, h4, ?_, fun x hx => key_is I (d.keys x hx).1 (d.keys x hx).2, d.nd⟩
  rw [h5]
  apply List.map_congr_left
  intro x hx
  show (⟨nhash x.1, .ref x.2.1, x.2.2⟩ : DictEntry) = ⟨x.1.hash X.w, .ref x.2.1, x.2.2⟩
  rw [hash_eq X.w x.1 (goodK_of (d.keys x hx).2).1]
theorem dco_ok {P : Program} {w : World} {H' : Hp} {h : Heap} {p : Addr} {xs : List (NestedKey × Addr × Value)} (hd : (p == sysModules) = false) (g : ∀ x ∈ xs, goodK x.1 = true) (dd : h.DictOfH (nestedKind P w) p xs) : ObjOk P w H' h p (DcO p xs) := by
  obtain ⟨o, es, ep, h2, h3, h4, h5, _, _⟩ := dd
  refine ⟨⟨hd, o, es, ep, h2, h3, h4, ?_⟩, ⟨o, h2⟩, fun h1 h2 ⟨a, o, es, ep, b, c⟩ k => ⟨a, o, es, ep, k o b, c⟩⟩
  rw [h5]
  apply List.map_congr_left
  intro x hx
  show (⟨x.1.hash w, .ref x.2.1, x.2.2⟩ : DictEntry) = ⟨nhash x.1, .ref x.2.1, x.2.2⟩
  rw [hash_eq w x.1 (goodK_of (g x hx)).1]
theorem room9 (hu : X.A.units + 65 < cLine) : (nestedKind X.prog X.w).room X.A.in1 := by
  show X.A.units + 1 + 8 < cLine
  omega
theorem room10 (hu : X.A.units + 65 < cLine) : (nestedKind X.prog X.w).room X.A.in1.in1 := by
  show X.A.units + 1 + 1 + 8 < cLine
  omega
end
section
variable {X : Cx}
/-- k in d, k not in d -/
def rInN (K : PySem.W.Frag) (neg : Bool) : R2 := fun x y H Q => ∃ a p xs k, x = .ref a ∧ y = .ref p ∧ H p = some (DcO p xs) ∧ DKs K H xs ∧ Dp K H (.ref a) k.data ∧ goodK k = true ∧ Q (.bl (if neg = true then !(atKey xs k).isSome else (atKey xs k).isSome)) H
theorem op_inN (hu : X.A.units + 65 < cLine) : OpR X (compareOp .In) (rInN X.K false) := by
  intro pins s σ H x y v u Q I rx ry h
  obtain ⟨a, p, xs, k, rfl, rfl, hp, d, hk, g, q⟩ := h
  cases rx
  cases ry
  obtain ⟨hd, dd⟩ := dict_of I hp d
  exact wpAny_in_heap (room9 hu) (key_is I hk g) hd dd ⟨.bl _, H, I.tok _, rfl, q⟩
theorem op_notInN (hu : X.A.units + 65 < cLine) : OpR X (compareOp .NotIn) (rInN X.K true) := by
  intro pins s σ H x y v u Q I rx ry h
  obtain ⟨a, p, xs, k, rfl, rfl, hp, d, hk, g, q⟩ := h
  cases rx
  cases ry
  obtain ⟨hd, dd⟩ := dict_of I hp d
  exact wpAny_notIn_heap (room9 hu) (key_is I hk g) hd dd ⟨.bl _, H, I.tok _, rfl, q⟩
/-- d[k], there -/
def rIxN (K : PySem.W.Frag) : R2 := fun x y H Q => ∃ a p xs k q v, x = .ref p ∧ y = .ref a ∧ H p = some (DcO p xs) ∧ DKs K H xs ∧ Dp K H (.ref a) k.data ∧ goodK k = true ∧ atKey xs k = some q ∧ RelV v q.2 ∧ Q v H
theorem pe_ixN {o i : Expr} {pos : Pos} {td ty : TE} (hu : X.A.units + 65 < cLine) (ho : PE X o td) (hi : PE X i ty) (hs : NoSl i) : PE X (.Subscript o i pos) (tOp (rIxN X.K) td ty) := by
  refine ⟨fun pins s σ H Q I h => ?_⟩
  refine subD_of PySem.F.slot_dict_getitem.lookup hs (thn (ho.run pins s σ H _ I h) fun u s1 ⟨x, H1, I1, rx, q1⟩ => thn (hi.run pins s1 σ H1 _ I1 q1) fun iv s2 ⟨y, H2, I2, ry, a, p, xs, k, q, v, ex, ey, hp, d, hk, g, hq, rv, qq⟩ => ?_)
  subst ex ey
  cases rx
  cases ry
  obtain ⟨hd, dd⟩ := dict_of I2 hp d
  exact ⟨dd.typeIs, wpAny_getItem_heap (room9 hu) (key_is I2 hk g) dd hq ⟨v, H2, I2.tok _, rv, qq⟩⟩
/-- d.get(k, x) -/
def tGetN (K : PySem.W.Frag) (td ty tx : TE) : TE := fun σ H Q => td σ H fun x H1 => ∃ p xs, x = .ref p ∧ H1 p = some (DcO p xs) ∧ DKs K H1 xs ∧ ty σ H1 fun y H2 => tx σ H2 fun z H3 => ∃ a k, y = .ref a ∧ H3 p = some (DcO p xs) ∧ DKs K H3 xs ∧ Dp K H3 (.ref a) k.data ∧ goodK k = true ∧
  ((atKey xs k = none ∧ Q z H3) ∨ ∃ q v, atKey xs k = some q ∧ RelV v q.2 ∧ Q v H3)
theorem pe_getN {o e f : Expr} {apos cpos : Pos} {td ty tx : TE} (hu : X.A.units + 65 < cLine) (ho : PE X o td) (he : PE X e ty) (hf : PE X f tx) (m : M2 X o "get" apos e f cpos) : PE X (.Call (.Attribute o "get" apos) [e, f] [] cpos) (tGetN X.K td ty tx) := by
  refine ⟨fun pins s σ H Q I h => ?_⟩
  refine wpAny_Call_method m.base m.few m.line PySem.F.plainAttrs_dict PySem.F.slot_dict_get PySem.F.type_dict_get (thn (ho.run pins s σ H _ I h) fun u s1 ⟨x, H1, I1, rx, p, xs, ex, hp, d, q1⟩ => ?_)
  subst ex
  obtain rfl : u = Value.ref p := rx
  obtain ⟨hd, dd⟩ := dict_of I1 hp d
  refine ⟨dd.typeIs, fun b q => ?_, ?_⟩
  · cases q
    obtain ⟨ob, _, _, h1, h2, _⟩ := dd
    exact ⟨ob, h1, h2.2.1⟩
  rw [m.trees]
  refine Calls.callWith_builtin rfl (Calls.evalArgs_plain (Calls.spliced_cons (thn (he.run pins s1 σ H1 _ I1 q1) fun iv s2 ⟨y, H2, I2, ry, q2⟩ =>
    Calls.spliced_cons (thn (hf.run pins s2 σ H2 _ I2 q2) fun fv s3 ⟨z, H3, I3, rz, a, k, ey, hp3, d3, hk, g, q3⟩ => Calls.spliced_nil ?_))))
  subst ey
  cases ry
  obtain ⟨hd3, dd3⟩ := dict_of I3 hp3 d3
  refine call_meetsIn PySem.F.slot_dict_get dd3.typeIs PySem.F.entry_dict_get (PySem.F.args_dict_get_3 _ _ _) (meetsH_dict_get_default (nestedKind X.prog X.w) p a hd3 fv) ⟨room9 hu, k, xs, key_is I3 hk g, dd3, ?_⟩
  rcases q3 with ⟨e, q⟩ | ⟨q, v, e, rv, qq⟩
  · rw [e]
    exact ⟨z, H3, I3.tok _, rz, q⟩
  · rw [e]
    exact ⟨v, H3, I3.tok _, rv, qq⟩
/-- d[k] = v -/
def sPutN (K : PySem.W.Frag) (td ty tv : TE) : TS := fun D σ H => tv σ H fun v H1 => td σ H1 fun x H2 => ty σ H2 fun y H3 => ∃ a p xs k, x = .ref p ∧ y = .ref a ∧ H3 p = some (DcO p xs) ∧ DKs K H3 xs ∧ xs.length ≤ sizeLine ∧ Dp K H3 (.ref a) k.data ∧ goodK k = true ∧
  ∀ u, RelV v u → D.nx σ (upd H3 p (DcO p (storedH xs k a u)))
theorem mem_stored {xs : List (NestedKey × Addr × Value)} {k : NestedKey} {a : Addr} {u : Value} {x : NestedKey × Addr × Value} (h : x ∈ storedH xs k a u) : x.1 = k ∨ x.1 ∈ xs.map (·.1) := by
  rcases mem_storedH_key h with ⟨y, hy, e, _⟩ | ⟨e, _⟩
  · rw [e]; exact .inr (List.mem_map.mpr ⟨y, hy, rfl⟩)
  · exact .inl e
theorem good_stored {xs : List (NestedKey × Addr × Value)} {k : NestedKey} {a : Addr} {u : Value} (h : ∀ x ∈ xs, goodK x.1 = true) (g : goodK k = true) : ∀ x ∈ storedH xs k a u, goodK x.1 = true := fun x hx => by
  rcases mem_stored hx with e | e
  · rw [e]; exact g
  · obtain ⟨y, hy, e2⟩ := List.mem_map.mp e
    rw [← e2]; exact h y hy
theorem ps_putN {o i value : Expr} {pos' pos : Pos} {td ty tv : TE} (hu : X.A.units + 65 < cLine) (ho : PE X o td) (hi : PE X i ty) (hv : PE X value tv) (hs : swapsWith value (some (.Subscript o i pos')) pos.line X.env = pure false) :
    PS X (.Assign [.Subscript o i pos'] value pos) (sPutN X.K td ty tv) := by
  refine ⟨fun pins s σ H D I h => ?_⟩
  refine wpAny_Assign_Subscript (thn (hv.run pins s σ H _ I h) fun r s1 ⟨v, H1, I1, rv, q1⟩ => thn (ho.run pins s1 σ H1 _ I1 q1) fun u s2 ⟨x, H2, I2, rx, q2⟩ => thn (hi.run pins s2 σ H2 _ I2 q2) fun iv s3 ⟨y, H3, I3, ry, a, p, xs, k, ex, ey, hp, d, hz, hk, g, q3⟩ => ?_) hs
  subst ex ey
  cases rx
  cases ry
  obtain ⟨hd, dd⟩ := dict_of I3 hp d
  refine wpAny_setItem_heap (hsz := hz) (room9 hu) (key_is I3 hk g) dd fun h' dd' hs' => ⟨σ, _, ?_, q3 r rv⟩
  obtain ⟨q, _, _, hq, _⟩ := id dd'
  exact d_write I3 (by rw [hp]; exact True.intro) hs' ⟨q, hq⟩ (dco_ok hd (good_stored (fun x hx => (d.keys x hx).2) g) dd')
/-- {} -/
def tNewN : TE := fun _ H Q => ∀ p, H p = none → Q (.ref p) (upd H p (DcO p []))
theorem pe_newN {pos : Pos} : PE X (.Dict [] [] pos) tNewN := ⟨fun pins s σ H Q I h =>
  wpAny_Dict_empty ⟨.ref s.heap.objs.size, _, I.laid (a := s.heap.objs.size) (o := DcO s.heap.objs.size []) (t' := s.toks) (fun _ _ q => Heap.get?_push_of_some _ q) (Nat.le_refl _) (dco_ok (P := X.prog) (w := X.w) (beq_eq_false_iff_ne.mpr (Ne.symm (Nat.ne_of_lt I.big))) (fun x hx => nomatch hx) (Heap.DictOfH.new s.heap)), rfl, h _ (I.hok.fresh (Nat.le_refl _))⟩⟩
end
end Fd
end
section
set_option Elab.async false
set_option linter.all false
set_option maxRecDepth 100000
set_option autoImplicit false
set_option maxHeartbeats 4000000
/-! FdF: dicts as data. -/
namespace Fd
open PySem PySem.Spec PyProof.Rows L2 LamX
abbrev DN := Ev → (KVs → Prop) → (Value → Prop) → Prop
abbrev DM := Ev → (OD → Prop) → (Value → Prop) → Prop
section
variable (K : PySem.W.Frag) (T : Tb) (E : XK)
/-- a dict (keys: tuples) that is read -/
def lfD (t : DN) : TE := fun sg H Q => ∃ H0 G0 r G Qd Ed, HR T H0 G0 H G ∧ ER K H0 r sg H G ∧ t r Qd Ed ∧
  (∀ kvs p u H' G', HR T H G H' G' → H' p = some u → OR K G' p u (.dN kvs) → Qd kvs → Q (.ref p) H') ∧ Xc T E H G Ed
/-- a thing that was made just now -/
def lfM (t : DM) : TE := fun sg H Q => ∃ H0 G0 r G Qd Ed, HR T H0 G0 H G ∧ ER K H0 r sg H G ∧ t r Qd Ed ∧
  (∀ o p u H' G', HR T H G H' G' → NT H p → H' p = some u → G' p = none → OR K G' p u o → Qd o → Q (.ref p) H') ∧ Xc T E H G Ed
end
section
variable (X : Cx) (T : Tb) (E : XK)
structure FD (e : Expr) (t : DN) : Prop where
  pe : PE X e (lfD X.K T E t)
structure FM (e : Expr) (t : DM) : Prop where
  pe : PE X e (lfM X.K T E t)
end
section
variable {X : Cx} {T : Tb} {E : XK} {a b c e : Expr} {es : List Expr} {ta tb tc : DE} {td : DN} {tm : DM} {pos : Pos}
theorem FD.mk' {t : DN} {te : TE} (h : PE X e te) (q : ∀ sg H Q, lfD X.K T E t sg H Q → te sg H Q) : FD X T E e t := ⟨⟨fun pins s sg H Q I w => h.run pins s sg H Q I (q sg H Q w)⟩⟩
theorem FM.mk' {t : DM} {te : TE} (h : PE X e te) (q : ∀ sg H Q, lfM X.K T E t sg H Q → te sg H Q) : FM X T E e t := ⟨⟨fun pins s sg H Q I w => h.run pins s sg H Q I (q sg H Q w)⟩⟩
theorem dp_key {K : PySem.W.Frag} {G : Hp} {v : V} {d : PyData} {k : NestedKey} (p : Dp K G v d) (h : keyD d = some k) : ∃ a, v = .ref a ∧ Dp K G (.ref a) k.data ∧ goodK k = true := by
  obtain ⟨h1, h2⟩ := keyD_of h
  have h3 := keyOf_data d k h1
  obtain ⟨_, _, ks, rfl⟩ := goodK_of h2
  rw [h3]
  simp only [NestedKey.data] at h3
  subst h3
  cases p with
  | tup hs ha => exact ⟨_, rfl, .tup hs ha, h2⟩
/-- a name that holds a dict -/
@[simp] def dSlN (i : Nat) : DN := fun r Q _ => ∃ kvs, r[i]? = some (.obj (.dN kvs)) ∧ Q kvs
theorem fd_var (i : Nat) {x : Str} (hN : X.N[i]? = some x := by rfl) (hv : Vis X.env.scope x := by first | exact Or.inl rfl | exact Or.inr (Or.inl rfl) | exact Or.inr (Or.inr rfl)) (hd : (x == ("__debug__" : Str)) = false := by decide)
    (hcd : (x == ("__classdict__" : Str)) = false := by decide) : FD X T E (.Name x pos) (dSlN i) := by
  refine FD.mk' (pe_var hN hv hd hcd) fun sg H Q ⟨H0, G0, r, G, Qd, Ed, h, er, ⟨kvs, hd, q⟩, k, x⟩ => ?_
  obtain ⟨p, u, a, b, c, n, d⟩ := er.obj i _ hd
  exact ⟨.ref p, a, k kvs p u H G h.refl b d q⟩
/-- k in d -/
@[simp] def dInN (neg : Bool) (ta : DE) (td : DN) : DE := fun r Q E => ta r (fun d => td r (fun kvs => ∃ k, keyD d = some k ∧ Q (.bool (if neg = true then !hasK kvs k else hasK kvs k))) E) E
theorem inN_of {neg : Bool} : ∀ sg H Q, lf X.K T E (dInN neg ta td) sg H Q → tOp (rInN X.K neg) (lf X.K T E ta) (lfD X.K T E td) sg H Q := by
  intro sg H Q ⟨H0, G0, r, G, Qd, Ed, h, er, w, k, x⟩
  refine ⟨H0, G0, r, G, _, Ed, h, er, w, fun d v H1 G1 h1 p1 w1 => ?_, x⟩
  refine ⟨H0, G0, r, G1, _, Ed, h.trans h1, er.grow h1, w1, fun kvs p u H2 G2 h2 hp ⟨xs, eu, pr, nd, hl, gd⟩ ⟨kk, hk, q⟩ => ?_, x.up h1⟩
  subst eu
  obtain ⟨a, rfl, hka, g⟩ := dp_key (p1.up h2.g0) hk
  refine ⟨a, p, xs, kk, rfl, rfl, hp, dks_of pr h2.sub nd gd, hka.up h2.sub, g, ?_⟩
  rw [paired_has pr]
  exact k _ _ H2 G2 (h1.trans h2) (.bl _) q
theorem fe_inN (hu : X.A.units + 65 < cLine) (ha : FE X T E a ta) (hb : FD X T E b td) (hm : behindInMarks .In b = false) : FE X T E (.Compare a [.In] [b] pos) (dInN false ta td) := FE.mk' (pe_cmpR (op_inN hu) ha.pe hb.pe hm) inN_of
theorem fe_notInN (hu : X.A.units + 65 < cLine) (ha : FE X T E a ta) (hb : FD X T E b td) (hm : behindInMarks .NotIn b = false) : FE X T E (.Compare a [.NotIn] [b] pos) (dInN true ta td) := FE.mk' (pe_cmpR (op_notInN hu) ha.pe hb.pe hm) inN_of
theorem ft_inN (hu : X.A.units + 65 < cLine) (ha : FE X T E a ta) (hb : FD X T E b td) (hm : behindInMarks .In b = false) : FT X T E (.Compare a [.In] [b] pos) (dTest (dInN false ta td)) := FT.mk' (pt_cmpR (op_inN hu) ha.pe hb.pe hm) fun sg H Q w => inN_of _ _ _ (lf_test _ _ _ w)
theorem ft_notInN (hu : X.A.units + 65 < cLine) (ha : FE X T E a ta) (hb : FD X T E b td) (hm : behindInMarks .NotIn b = false) : FT X T E (.Compare a [.NotIn] [b] pos) (dTest (dInN true ta td)) := FT.mk' (pt_cmpR (op_notInN hu) ha.pe hb.pe hm) fun sg H Q w => inN_of _ _ _ (lf_test _ _ _ w)
/-- d[k] -/
@[simp] def dIxN (td : DN) (ta : DE) : DE := fun r Q E => td r (fun kvs => ta r (fun d => ∃ k e, keyD d = some k ∧ valD kvs k = some e ∧ Q e) E) E
theorem or_ext {K : PySem.W.Frag} {H1 G1 H2 G2 : Hp} {p : Addr} {u : HO} {o : OD} (h2 : HR T H1 G1 H2 G2) (hp : H1 p = some u) (a : OR K G1 p u o) : H2 p = some u ∧ OR K G2 p u o := ⟨h2.ext p u hp a.notTbl, a.up h2.g0⟩
theorem fe_ixN (hu : X.A.units + 65 < cLine) (ha : FD X T E a td) (hb : FE X T E b tb) (hs : NoSl b := by exact fun _ _ => rfl) : FE X T E (.Subscript a b pos) (dIxN td tb) := by
  refine FE.mk' (pe_ixN hu ha.pe hb.pe hs) fun sg H Q ⟨H0, G0, r, G, Qd, Ed, h, er, w, k, x⟩ => ?_
  refine ⟨H0, G0, r, G, _, Ed, h, er, w, fun kvs p u H1 G1 h1 hp1 o1 w1 => ?_, x⟩
  refine ⟨H0, G0, r, G1, _, Ed, h.trans h1, er.grow h1, w1, fun d v H2 G2 h2 p2 ⟨kk, ee, hk, he, q⟩ => ?_, x.up h1⟩
  obtain ⟨hp, xs, eu, pr, nd, hl, gd⟩ := or_ext h2 hp1 o1
  subst eu
  obtain ⟨a, rfl, hka, g⟩ := dp_key p2 hk
  rcases paired_val pr kk with ⟨e1, _⟩ | ⟨dd, qq, e1, e2, vv, rv, dv⟩
  · rw [he] at e1; cases e1
  · rw [he] at e1
    cases e1
    exact ⟨a, p, xs, kk, qq, vv, rfl, rfl, hp, dks_of pr h2.sub nd gd, hka.up h2.sub, g, e2, rv, k _ _ H2 G2 (h1.trans h2) dv q⟩
/-- d.get(k, z) -/
@[simp] def dGetN (td : DN) (ta tz : DE) : DE := fun r Q E => td r (fun kvs => ta r (fun d => tz r (fun z => ∃ k, keyD d = some k ∧ Q ((valD kvs k).getD z)) E) E) E
theorem fe_getN {apos : Pos} (hu : X.A.units + 65 < cLine) (ha : FD X T E a td) (hb : FE X T E b tb) (hc : FE X T E c tc) (m : M2 X a "get" apos b c pos := by exact ⟨rfl, rfl, rfl, rfl⟩) : FE X T E (.Call (.Attribute a "get" apos) [b, c] [] pos) (dGetN td tb tc) := by
  refine FE.mk' (pe_getN hu ha.pe hb.pe hc.pe m) fun sg H Q ⟨H0, G0, r, G, Qd, Ed, h, er, w, k, x⟩ => ?_
  refine ⟨H0, G0, r, G, _, Ed, h, er, w, fun kvs p u H1 G1 h1 hp1 o1 w1 => ?_, x⟩
  obtain ⟨xs, eu, pr, nd, hl, gd⟩ := id o1
  subst eu
  refine ⟨p, xs, rfl, hp1, dks_of pr h1.sub nd gd, H0, G0, r, G1, _, Ed, h.trans h1, er.grow h1, w1, fun d v H2 G2 h2 p2 w2 => ?_, x.up h1⟩
  refine ⟨H0, G0, r, G2, _, Ed, (h.trans h1).trans h2, (er.grow h1).grow h2, w2, fun z vz H3 G3 h3 p3 ⟨kk, hk, q⟩ => ?_, (x.up h1).up h2⟩
  obtain ⟨hp3, xs', eu, pr3, _, _, _⟩ := or_ext (h2.trans h3) hp1 o1
  obtain ⟨a, rfl, hka, g⟩ := dp_key (p2.up h3.g0) hk
  have sm : Paired (EnR X.K G3) kvs xs := L2.Paired.mapP pr fun kv x ⟨a1, a2, v, a3, a4⟩ => ⟨a1, a2.up (h2.trans h3).g0, v, a3, a4.up (h2.trans h3).g0⟩
  refine ⟨a, kk, rfl, hp3, dks_of sm h3.sub nd gd, hka.up h3.sub, g, ?_⟩
  rcases paired_val sm kk with ⟨e1, e2⟩ | ⟨dd, qq, e1, e2, vv, rv, dv⟩
  · rw [e1] at q
    exact .inl ⟨e2, k _ _ H3 G3 ((h1.trans h2).trans h3) p3 q⟩
  · rw [e1] at q
    exact .inr ⟨qq, vv, e2, rv, k _ _ H3 G3 ((h1.trans h2).trans h3) dv q⟩
/-- {} -/
@[simp] def dNewN : DM := fun _ Q _ => Q (.dN [])
theorem fm_newN : FM X T E (.Dict [] [] pos) dNewN := by
  refine FM.mk' pe_newN fun sg H Q ⟨H0, G0, r, G, Qd, Ed, h, er, w, k, x⟩ p hp => ?_
  exact k (.dN []) p _ _ G (h.laidO hp) (NT.none hp) upd_same (G_none h hp) ⟨[], rfl, .nil, by simp, by simp, fun x hx => nomatch hx⟩ w
@[simp] def dNewI : DM := fun _ Q _ => Q (.dI [])
theorem fm_newI : FM X T E (.Dict [] [] pos) dNewI := by
  refine FM.mk' pe_dnewK fun sg H Q ⟨H0, G0, r, G, Qd, Ed, h, er, w, k, x⟩ p hp => ?_
  exact k (.dI []) p _ _ G (h.laidO hp) (NT.none hp) upd_same (G_none h hp) ⟨[], rfl, .nil, by simp⟩ w
end
/-! ### statements -/
section
variable {X : Cx} {T : Tb} {E : XK} {a b c e : Expr} {es : List Expr} {ta tb tc : DE} {td : DN} {tm : DM} {pos pos' : Pos}
/-- name = a thing made just now -/
@[simp] def dSetM (i : Nat) (t : DM) : DS := fun D r => t r (fun o => D.nx (r.set i (.obj o))) D.ex
theorem fs_setM {i : Nat} {x : Str} {pos' : Pos} (hN : X.N.Nodup) (hi : X.N[i]? = some x) (hx : Loc X.env.scope x) (he : FM X T E e tm) (hs : swapsWith e (some (.Name x pos')) pos.line X.env = pure false := by rfl) (hf : X.fn x = true ∨ X.env.scope.names.lookup x = some .local := by first | exact .inl rfl | exact .inr rfl | assumption) :
    FS X T E (.Assign [.Name x pos'] e pos) (dSetM i tm) := by
  refine FS.mk' (ps_set hN hi hx he.pe hs hf) fun D sg H ⟨H0, G0, r, G, Dd, h, er, w, k⟩ => ?_
  exact ⟨H0, G0, r, G, _, _, h, er, w, fun o p u H' G' z n hp gp a q => k.nx _ _ H' G' (h.trans z) z.g0 (er.setNew z h i n hp gp a) q, k.xc h⟩
/-- d[k] = v -/
@[simp] def dPutN (i : Nat) (tv ta : DE) : DS := fun D r => tv r (fun v => ∃ kvs, r[i]? = some (.obj (.dN kvs)) ∧ ta r (fun d => ∃ k, keyD d = some k ∧ kvs.length < sizeLine ∧ D.nx (r.set i (.obj (.dN (putD kvs k v))))) D.ex) D.ex
theorem fs_putN (i : Nat) {x : Str} {p1 : Pos} (hu : X.A.units + 65 < cLine) (hb : FE X T E b tb) (hc : FE X T E c tc) (hs : swapsWith c (some (.Subscript (.Name x p1) b pos')) pos.line X.env = pure false := by rfl)
    (hN : X.N[i]? = some x := by rfl) (hv : Vis X.env.scope x := by first | exact Or.inl rfl | exact Or.inr (Or.inl rfl) | exact Or.inr (Or.inr rfl)) (hd : (x == ("__debug__" : Str)) = false := by decide) (hcd : (x == ("__classdict__" : Str)) = false := by decide) :
    FS X T E (.Assign [.Subscript (.Name x p1) b pos'] c pos) (dPutN i tc tb) := by
  refine FS.mk' (ps_putN hu (pe_var hN hv hd hcd) hb.pe hc.pe hs) fun D sg H ⟨H0, G0, r, G, Dd, h, er, w, k⟩ => ?_
  refine ⟨H0, G0, r, G, _, _, h, er, w, fun v vv H1 G1 h1 p1 ⟨kvs, hr, w1⟩ => ?_, k.xc h⟩
  have er1 := er.grow h1
  obtain ⟨p, u, s1, hp1, gp1, n1, o1⟩ := er1.obj i _ hr
  refine ⟨.ref p, s1, H0, G0, r, G1, _, _, h.trans h1, er1, w1, fun d vd H2 G2 h2 p2 ⟨kk, hk, hl, q⟩ => ?_, (k.xc h).up h1⟩
  obtain ⟨hp, o2⟩ := or_ext h2 hp1 o1
  obtain ⟨xs, eu, pr, nd, hz, gd⟩ := id o2
  subst eu
  obtain ⟨a, rfl, hka, g⟩ := dp_key p2 hk
  have gp2 : G2 p = none := h2.noNewO hp1 o1.notTbl gp1
  refine ⟨a, p, xs, kk, rfl, rfl, hp, dks_of pr h2.sub nd gd, by rw [← paired_len pr]; exact hz, hka.up h2.sub, g, fun uu ru => ?_⟩
  have hr02 := (h.trans h1).trans h2
  have o3 : OR X.K G2 p (DcO p (storedH xs kk a uu)) (.dN (putD kvs kk v)) := ⟨_, rfl, paired_put pr hka ru (p1.up h2.g0), putD_nodup nd, by have := putD_length kvs kk v; omega, fun x hx => by
    have : x.1 ∈ (putD kvs kk v).map (·.1) := List.mem_map.mpr ⟨x, hx, rfl⟩
    rw [putD_keys] at this
    have : x.1 ∈ kvs.map (·.1) ∨ x.1 = kk := by
      split at this
      · exact .inl this
      · rcases List.mem_append.mp this with z | z
        · exact .inl z
        · exact .inr (by simpa using z)
    rcases this with z | z
    · obtain ⟨y, hy, e⟩ := List.mem_map.mp z
      rw [← e]; exact gd y hy
    · rw [z]; exact g⟩
  exact k.nx _ _ _ G2 (hr02.pokeX n1 hp o2.notTbl o2.notCode gp2) (h1.g0.trans h2.g0) ((er1.grow h2).pokeX hr s1 gp2 n1 o3) q
end
/-! ### dicts with ints -/
section
variable {K : PySem.W.Frag} {G : Hp}
abbrev IVs := List (Int × PyData)
def valI (kvs : IVs) (k : Int) : Option PyData := (kvs.find? fun p => decide (p.1 = k)).map (·.2)
def putI (kvs : IVs) (k : Int) (d : PyData) : IVs := if (valI kvs k).isSome = true then kvs.map (fun p => if p.1 = k then (p.1, d) else p) else kvs ++ [(k, d)]
theorem pairedI_val {kvs : IVs} {xs : List (Key × V)} (h : Paired (EnI K G) kvs xs) (k : Int) : (valI kvs k = none ∧ valV xs (.inl k) = none) ∨ ∃ d v, valI kvs k = some d ∧ valV xs (.inl k) = some v ∧ Dp K G v d := by
  induction h with
  | nil => exact .inl ⟨rfl, rfl⟩
  | @cons a b l₁ l₂ h t ih =>
    obtain ⟨e, h2⟩ := h
    by_cases q : a.1 = k
    · refine .inr ⟨a.2, b.2, ?_, ?_, h2⟩
      · unfold valI; rw [List.find?_cons_of_pos (p := fun p : Int × PyData => decide (p.1 = k)) (decide_eq_true q)]; rfl
      · exact valV_pos (e.trans (by rw [q]))
    · have q2 : ¬ b.1 = .inl k := fun z => q (by rw [e] at z; exact Sum.inl.inj z)
      have e1 : valI (a :: l₁) k = valI l₁ k := by unfold valI; rw [List.find?_cons_of_neg (by simpa using q)]
      rw [e1, valV_neg q2]
      exact ih
theorem valI_mem (kvs : IVs) (k : Int) : (valI kvs k).isSome = true ↔ k ∈ kvs.map (·.1) := by
  unfold valI
  rw [Option.isSome_map, List.find?_isSome]
  simp
theorem pairedI_put {kvs : IVs} {xs : List (Key × V)} (h : Paired (EnI K G) kvs xs) {k : Int} {d : PyData} {v : V} (hd : Dp K G v d) : Paired (EnI K G) (putI kvs k d) (putK xs (.inl k) v) := by
  have e : (xs.any fun kv => decide (kv.1 = .inl k)) = (valI kvs k).isSome := by
    rw [valV_any]
    rcases pairedI_val h k with ⟨a, b⟩ | ⟨_, _, a, b, _⟩ <;> rw [a, b] <;> rfl
  unfold putI putK
  rw [e]
  split
  · clear e
    rename_i q
    clear q
    induction h with
    | nil => exact .nil
    | @cons x y l₁ l₂ h t ih =>
      refine .cons ?_ ih
      obtain ⟨e, h2⟩ := h
      show EnI K G (if x.1 = k then (x.1, d) else x) (if y.1 = .inl k then (y.1, v) else y)
      by_cases q : x.1 = k
      · rw [if_pos q, if_pos (by rw [e, q])]
        exact ⟨e, hd⟩
      · rw [if_neg q, if_neg (fun z => q (by rw [e] at z; exact Sum.inl.inj z))]
        exact ⟨e, h2⟩
  · exact paired_snoc h ⟨rfl, hd⟩
theorem putI_nodup {kvs : IVs} {k : Int} {d : PyData} (h : (kvs.map (·.1)).Nodup) : ((putI kvs k d).map (·.1)).Nodup := by
  unfold putI
  split
  · have : (kvs.map (fun p => if p.1 = k then (p.1, d) else p)).map (·.1) = kvs.map (·.1) := by
      rw [List.map_map]
      apply List.map_congr_left
      intro p _
      by_cases e : p.1 = k <;> simp [e]
    rw [this]; exact h
  · rename_i q
    rw [valI_mem] at q
    rw [List.map_append, List.nodup_append]
    exact ⟨h, by simp, fun a ha b hb => by simp at hb; subst hb; exact fun e => q (e ▸ ha)⟩
end
section
variable {X : Cx} {T : Tb} {E : XK} {a b c e : Expr} {es : List Expr} {ta tb tc : DE} {pos pos' : Pos}
/-- d[k], d a name, k an int -/
@[simp] def dIxI' (i : Nat) (ta : DE) : DE := fun r Q E => ∃ kvs, r[i]? = some (.obj (.dI kvs)) ∧ ta r (fun d => ∃ k e, d = .int k ∧ valI kvs k = some e ∧ Q e) E
theorem fe_ixI (i : Nat) {x : Str} {p1 : Pos} (hu : X.A.units + 65 < cLine) (hb : FE X T E b tb) (hs : NoSl b := by exact fun _ _ => rfl) (hN : X.N[i]? = some x := by rfl) (hv : Vis X.env.scope x := by first | exact Or.inl rfl | exact Or.inr (Or.inl rfl) | exact Or.inr (Or.inr rfl)) (hd : (x == ("__debug__" : Str)) = false := by decide)
    (hcd : (x == ("__classdict__" : Str)) = false := by decide) : FE X T E (.Subscript (.Name x p1) b pos) (dIxI' i tb) := by
  refine FE.mk' (pe_dget (by omega) (pe_var hN hv hd hcd) hb.pe hs) fun sg H Q ⟨H0, G0, r, G, Qd, Ed, h, er, ⟨kvs, hr, w⟩, k, x⟩ => ?_
  obtain ⟨p, u, s1, hp1, gp1, n1, o1⟩ := er.obj i _ hr
  refine ⟨.ref p, s1, H0, G0, r, G, _, Ed, h, er, w, fun d v H2 G2 h2 p2 ⟨kk, ee, hk, he, q⟩ => ?_, x⟩
  subst hk
  cases p2
  obtain ⟨hp, xs, eu, pr, nd⟩ := or_ext h2 hp1 o1
  subst eu
  rcases pairedI_val pr kk with ⟨e1, _⟩ | ⟨dd, vv, e1, e2, dv⟩
  · rw [he] at e1; cases e1
  · rw [he] at e1
    cases e1
    exact ⟨p, vv, rfl, .inl ⟨xs, .inl kk, .inl hp, rfl, e2.symm⟩, k _ _ H2 G2 h2 dv q⟩
@[simp] def dPutI (i : Nat) (tv ta : DE) : DS := fun D r => tv r (fun v => ∃ kvs, r[i]? = some (.obj (.dI kvs)) ∧ ta r (fun d => ∃ k, d = .int k ∧ kvs.length < sizeLine ∧ D.nx (r.set i (.obj (.dI (putI kvs k v))))) D.ex) D.ex
theorem fs_putI (i : Nat) {x : Str} {p1 : Pos} (hu : X.A.units + 65 < cLine) (hb : FE X T E b tb) (hc : FE X T E c tc) (hs : swapsWith c (some (.Subscript (.Name x p1) b pos')) pos.line X.env = pure false := by rfl)
    (hN : X.N[i]? = some x := by rfl) (hv : Vis X.env.scope x := by first | exact Or.inl rfl | exact Or.inr (Or.inl rfl) | exact Or.inr (Or.inr rfl)) (hd : (x == ("__debug__" : Str)) = false := by decide) (hcd : (x == ("__classdict__" : Str)) = false := by decide) :
    FS X T E (.Assign [.Subscript (.Name x p1) b pos'] c pos) (dPutI i tc tb) := by
  refine FS.mk' (ps_dput (by omega) (pe_var hN hv hd hcd) hb.pe hc.pe hs) fun D sg H ⟨H0, G0, r, G, Dd, h, er, w, k⟩ => ?_
  refine ⟨H0, G0, r, G, _, _, h, er, w, fun v vv H1 G1 h1 p1 ⟨kvs, hr, w1⟩ => ?_, k.xc h⟩
  have er1 := er.grow h1
  obtain ⟨p, u, s1, hp1, gp1, n1, o1⟩ := er1.obj i _ hr
  refine ⟨.ref p, s1, H0, G0, r, G1, _, _, h.trans h1, er1, w1, fun d vd H2 G2 h2 p2 ⟨kk, hk, hl, q⟩ => ?_, (k.xc h).up h1⟩
  subst hk
  cases p2
  obtain ⟨hp, o2⟩ := or_ext h2 hp1 o1
  obtain ⟨xs, eu, pr, nd⟩ := id o2
  subst eu
  have gp2 : G2 p = none := h2.noNewO hp1 o1.notTbl gp1
  have o3 : OR X.K G2 p (.dK (putK xs (.inl kk) vv)) (.dI (putI kvs kk v)) := ⟨_, rfl, pairedI_put pr (p1.up h2.g0), putI_nodup nd⟩
  exact ⟨p, _, rfl, .inl ⟨xs, .inl kk, hp, rfl, by rw [← paired_len pr]; exact hl, rfl⟩, k.nx _ _ _ G2 (((h.trans h1).trans h2).pokeX n1 hp o2.notTbl o2.notCode gp2) (h1.g0.trans h2.g0) ((er1.grow h2).pokeX hr s1 gp2 n1 o3) q⟩
end
end Fd
end
section
set_option Elab.async false
set_option linter.all false
set_option maxRecDepth 100000
set_option autoImplicit false
set_option maxHeartbeats 4000000
/-! FdH: enumerate over a list. -/
namespace Fd
open PySem PySem.Spec PyProof.Rows L2 LamX
section
variable {X : Cx} {T : Tb} {E : XK} {K : PySem.W.Frag} {e : Expr} {pos : Pos}
theorem walkD_enumL {a : Addr} {xs : List V} {ds : List PyData} {G1 : Hp} (ha : DpAll K G1 xs ds) : WalkD K T (Ite K a) (enumD ds) G1 (fun H => SqL K H a xs) := by
  have l1 := ha.len
  have lz := enumD_length ds
  refine ⟨fun i H hi q => ⟨xs, xs[i]'(by omega), q, by simp [show i < xs.length by omega]⟩, fun H q => ⟨xs, q, by omega⟩, fun i H G v H' hi q hr sm y => ?_⟩
  obtain ⟨t, x, e1, e2, e3, e4⟩ := y
  subst e1 e3
  obtain ⟨d1, h1, h2⟩ := ha.at (e4 xs q)
  refine ⟨_, .tuple [.int (i : Nat), d1], ?_, hr.laidT e2, .tup (SqT.of upd_same) (.cons (.int _) (.cons (h2.up (sm.trans (hr.laidT e2).g0)) .nil))⟩
  have hil : i < ds.length := by omega
  simp [enumD, hil, List.getD_eq_getElem?_getD, h1]
  exact (List.getElem?_eq_some_iff.mp h1).2
@[simp] def dEnumL (t : DA) : DA := fun r Q E => t r (fun ds => ∃ xs, ds = [.list xs] ∧ Q (enumD xs)) E
theorem fi_enumL {ts : DA} {p tpos : Pos} {elts : List Expr} {kk : Nat} (hg : Gl X "enumerate") (hm : X.mg "enumerate" = none) (ha : FA X T E [e] ts) (hs : starEach [e] X.env = [(false, eval e X.env)] := by rfl) : FI X T E true (.Tuple elts kk tpos) (.Call (.Name "enumerate" p) [e] [] pos) (dEnumL ts) := by
  refine FI.mk' (pi_enum hg hm ha.pa hs) fun sg H R ⟨H0, G0, r, G, Qd, Ed, h, er, w, k, x⟩ => ?_
  refine ⟨H0, G0, r, G, _, Ed, h, er, w, fun ds vs H' G' z p ⟨xs, e1, q⟩ => ?_, x⟩
  subst e1
  cases p with
  | cons pd pt =>
    cases pt
    cases pd with
    | lst hs' ha' => exact ⟨_, _, rfl, z.sub.seq hs', k _ _ _ H' G' z (walkD_enumL ha') (fun H2 ex => sqA_ext (bb := true) ex (z.sub.seq hs')) (fun _ H2 sm => sm.seq hs') q⟩
end
end Fd
end
section
set_option Elab.async false
set_option linter.all false
set_option maxRecDepth 100000
set_option autoImplicit false
set_option maxHeartbeats 4000000
/-! FdG: dict(pairs); defs that make dicts, plain tuples. -/
namespace Fd
open PySem PySem.Spec PyProof.Rows L2 LamX
section
variable {X : Cx}
/-- the pairs of a list or plain tuple -/
def PrN (K : PySem.W.Frag) (H : Hp) (t : Addr) (p : NestedKey × Addr × V) : Prop := SqT K H t [.ref p.2.1, p.2.2] ∧ Dp K H (.ref p.2.1) p.1.data ∧ goodK p.1 = true
def XvR (p : NestedKey × Addr × V) (x : NestedKey × Addr × Value) : Prop := x.1 = p.1 ∧ x.2.1 = p.2.1 ∧ RelV p.2.2 x.2.2
def rDictN (K : PySem.W.Frag) : List V → Hp → VK → Prop := fun vs H Q => ∃ (a : Addr) (ts : List Addr) (ps : List (NestedKey × Addr × V)), vs = [.ref a] ∧ (SqL K H a (ts.map V.ref) ∨ (SqT K H a (ts.map V.ref) ∧ PlT H (.ref a))) ∧ Paired (PrN K H) ts ps ∧ ps.length ≤ sizeLine ∧
  ∀ q xs, H q = none → Paired XvR ps xs → Q (.ref q) (upd H q (DcO q (storedAllH [] xs)))
theorem vals_refs : ∀ {ts : List Addr} {its : List Value}, Vals (ts.map V.ref) its → its = ts.map Value.ref
  | [], _, h => by cases h; rfl
  | t :: ts, _, h => by
    cases h with
    | cons r rs => cases r; rw [vals_refs rs]; rfl
theorem pairs_at {pins : List (Addr × Obj)} {σ : L2.St} {H : Hp} {s : Shared} (I : Inv X pins σ H s) : ∀ {ts : List Addr} {ps : List (NestedKey × Addr × V)}, Paired (PrN X.K H) ts ps → ∃ xs, Paired XvR ps xs ∧ xs.length = ts.length ∧ (∀ x ∈ xs, (nestedKind X.prog X.w).is s.heap x.1 x.2.1 ∧ goodK x.1 = true) ∧ ∀ (j : Nat) x, xs[j]? = some x → ∃ t, ts[j]? = some t ∧ PairAt s.heap t (.ref x.2.1) x.2.2
  | _, _, .nil => ⟨[], .nil, rfl, (fun x hx => nomatch hx), (fun j x h => by simp at h)⟩
  | t :: ts, p :: ps, .cons ⟨h1, h2, h3⟩ r => by
    obtain ⟨xs, a, b, c, d⟩ := pairs_at I r
    obtain ⟨its, rv, pt, _⟩ := I.tuple h1
    cases rv with
    | cons r1 r2 => cases r2 with
      | @cons _ u _ _ r2 r3 =>
        cases r3
        cases r1
        refine ⟨(p.1, p.2.1, u) :: xs, .cons ⟨rfl, rfl, r2⟩ a, by simp [b], fun x hx => ?_, fun j x h => ?_⟩
        · rcases List.mem_cons.mp hx with rfl | hx
          · exact ⟨key_is I h2 h3, h3⟩
          · exact c x hx
        · cases j with
          | zero =>
            simp at h
            subst h
            exact ⟨t, rfl, .inl (show s.heap.IsTuple t #[Value.ref p.2.1, u] from pt)⟩
          | succ j =>
            obtain ⟨t', e1, e2⟩ := d j x (by simpa using h)
            exact ⟨t', by simpa using e1, e2⟩
theorem cr_dictN (hc : X.calm = true) (hu : X.A.units + 65 < cLine) : CallR X (.type "dict") (rDictN X.K) := by
  intro pins s σ H vs us Q I r h
  obtain ⟨a, ts, ps, rfl, hs, hp, hz, q⟩ := h
  rw [Vals.ref1 r]
  obtain ⟨xs, xv, hxl, hxk, hxp⟩ := pairs_at I hp
  have hpl : ps.length = xs.length := paired_len xv
  let Ts : Nat → Addr := fun j => ts.getD j 0
  let pv : List (Value × Value) := xs.map fun x => (.ref x.2.1, x.2.2)
  have hpvl : pv.length = xs.length := by simp [pv]
  have items : PairItems s.heap (ts.map Value.ref).toArray Ts pv := by
    refine ⟨by simp [hpvl, hxl], fun j k v hj => ?_⟩
    simp only [pv, List.getElem?_map] at hj
    cases hq : xs[j]? with
    | none => rw [hq] at hj; cases hj
    | some x =>
      rw [hq] at hj
      simp only [Option.map_some, Option.some.injEq, Prod.mk.injEq] at hj
      obtain ⟨rfl, rfl⟩ := hj
      obtain ⟨t, e1, e2⟩ := hxp j x hq
      refine ⟨by simp [Ts, List.getD_eq_getElem?_getD, e1], ?_⟩
      simp only [Ts, List.getD_eq_getElem?_getD, e1]
      exact e2
  have hph : PairsHaveH (nestedKind X.prog X.w) pv.length (PairRel pv) xs := by
    refine ⟨hpvl.symm, fun i key v hr => ?_⟩
    have hr : pv[i]? = some (key, v) := hr
    simp only [pv, List.getElem?_map] at hr
    cases hq : xs[i]? with
    | none => rw [hq] at hr; cases hr
    | some x =>
      rw [hq] at hr
      simp only [Option.map_some, Option.some.injEq, Prod.mk.injEq] at hr
      exact ⟨x.1, x.2.1, by rw [← hr.2], hr.1.symm⟩
  have hst : KeysStay (nestedKind X.prog X.w) s.heap s.heap.objs.size [] xs := fun h' hk x hx => nestedKind_stays.stays (fun b o vs n e _ => hk b o (Nat.ne_of_lt (Heap.lt_size e)) (by simp) e) (hxk x hx).1
  have fin : ∀ h' tk, h'.DictOfH (nestedKind X.prog X.w) s.heap.objs.size (storedAllH [] xs) → (∀ b o, b ∉ ([] : List Addr) → s.heap.get? b = some o → h'.get? b = some o) → EP X pins σ Q (.ref s.heap.objs.size) { s with heap := h', toks := tk } := fun h' tk dd k => by
    have gd : ∀ x ∈ storedAllH [] xs, goodK x.1 = true := storedAllH_keys (P := fun k _ => goodK k = true) (fun x hx => nomatch hx) fun x hx => (hxk x hx).2
    exact ⟨.ref _, _, I.laid (a := s.heap.objs.size) (o := DcO s.heap.objs.size (storedAllH [] xs)) (t' := tk) (fun b o e => k b o (by simp) e) (Nat.le_refl _) (dco_ok (beq_eq_false_iff_ne.mpr (Ne.symm (Nat.ne_of_lt I.big))) gd dd), rfl, q _ xs (I.hok.fresh (Nat.le_refl _)) xv⟩
  have hsz : pv.length ≤ sizeLine := by rw [hpvl, ← hpl]; exact hz
  rcases hs with hs | ⟨hs, ⟨a', o, ys, e, ho, hod⟩⟩
  · obtain ⟨its, rv, pl, _⟩ := I.list hs
    obtain rfl := vals_refs rv
    obtain ⟨o, n, ho, hcl, hd, hdat⟩ := pl
    exact call_dict_pairsH (PairArg.list a (ts.map Value.ref).toArray Ts pv) (I.ok.hd hc) (room10 hu) ⟨⟨o, n, ho, hcl, hd, hdat⟩, items⟩ hph hst hsz fin
  · cases e
    obtain ⟨its, rv, pl, _⟩ := I.tuple hs
    obtain rfl := vals_refs rv
    obtain ⟨ob, hob, hcl, n, hdat⟩ := pl
    obtain ⟨ho', _⟩ := (show ObjOk X.prog X.w H s.heap a (.frz o (.tup ys)) from I.hok a _ ho)
    have e2 : o = ob := Option.some.inj (ho'.symm.trans hob)
    subst e2
    exact call_dict_pairsH (PairArg.tuple a (ts.map Value.ref).toArray Ts pv) (I.ok.hd hc) (room10 hu) ⟨⟨o, n, hob, hcl, hod, hdat⟩, items⟩ hph hst hsz fin
end
/-! ### as data -/
/-- the pairs put one after the other -/
def putAll (kvs : KVs) : KVs → KVs
  | [] => kvs
  | p :: ps => putAll (putD kvs p.1 p.2) ps
theorem putAll_nodup : ∀ {ps kvs : KVs}, (kvs.map (·.1)).Nodup → ((putAll kvs ps).map (·.1)).Nodup
  | [], _, h => h
  | p :: ps, _, h => putAll_nodup (ps := ps) (putD_nodup h)
theorem putAll_len : ∀ (ps kvs : KVs), (putAll kvs ps).length ≤ kvs.length + ps.length
  | [], kvs => by simp [putAll]
  | p :: ps, kvs => by
    have a := putAll_len ps (putD kvs p.1 p.2)
    have b := putD_length kvs p.1 p.2
    show (putAll (putD kvs p.1 p.2) ps).length ≤ _
    simp
    omega
theorem putD_good {kvs : KVs} {k : NestedKey} {v : PyData} (gd : ∀ x ∈ kvs, goodK x.1 = true) (g : goodK k = true) : ∀ x ∈ putD kvs k v, goodK x.1 = true := fun x hx => by
  have : x.1 ∈ (putD kvs k v).map (·.1) := List.mem_map.mpr ⟨x, hx, rfl⟩
  rw [putD_keys] at this
  have : x.1 ∈ kvs.map (·.1) ∨ x.1 = k := by
    split at this
    · exact .inl this
    · rcases List.mem_append.mp this with z | z
      · exact .inl z
      · exact .inr (by simpa using z)
  rcases this with z | z
  · obtain ⟨y, hy, e⟩ := List.mem_map.mp z
    rw [← e]; exact gd y hy
  · rw [z]; exact g
theorem putAll_good : ∀ {ps kvs : KVs}, (∀ x ∈ kvs, goodK x.1 = true) → (∀ x ∈ ps, goodK x.1 = true) → ∀ x ∈ putAll kvs ps, goodK x.1 = true
  | [], _, h, _ => h
  | p :: ps, _, h, g => putAll_good (ps := ps) (putD_good h (g p (List.mem_cons_self ..))) fun x hx => g x (List.mem_cons_of_mem _ hx)
section
variable {K : PySem.W.Frag} {G H : Hp}
theorem paired_all {ps : KVs} {xs : List (NestedKey × Addr × Value)} (h : Paired (EnR K G) ps xs) : ∀ {acc : List (NestedKey × Addr × Value)} {kvs : KVs}, Paired (EnR K G) kvs acc → Paired (EnR K G) (putAll kvs ps) (storedAllH acc xs) := by
  induction h with
  | nil => intro acc kvs h; exact h
  | @cons a b l m hab t ih =>
    intro acc kvs h
    obtain ⟨e, h2, v, h3, h4⟩ := hab
    have := paired_put h h2 h3 h4
    rw [e] at this
    show Paired (EnR K G) (putAll (putD kvs a.1 a.2) l) (storedAllH (storedH acc b.1 b.2.1 b.2.2) m)
    rw [e]
    exact ih this
/-- a pair's data -/
def prD (p : NestedKey × PyData) : PyData := .tuple [p.1.data, p.2]
theorem pairs_of : ∀ {vs : List V} {ps : KVs}, DpAll K G vs (ps.map prD) → (∀ p ∈ ps, goodK p.1 = true) → ∃ (ts : List Addr) (qs : List (NestedKey × Addr × V)), vs = ts.map V.ref ∧ Paired (PrN K G) ts qs ∧ Paired (fun (p : NestedKey × PyData) (q : NestedKey × Addr × V) => p.1 = q.1 ∧ Dp K G (.ref q.2.1) p.1.data ∧ Dp K G q.2.2 p.2) ps qs
  | _, [], h, _ => by cases h; exact ⟨[], [], rfl, .nil, .nil⟩
  | _, p :: ps, h, g => by
    cases h with
    | cons h1 h2 =>
      obtain ⟨ts, qs, e, a, b⟩ := pairs_of h2 fun x hx => g x (List.mem_cons_of_mem _ hx)
      have h1 : Dp K G _ (.tuple [p.1.data, p.2]) := h1
      have gp := g p (List.mem_cons_self ..)
      cases h1 with
      | @tup t us _ hs ha =>
        cases ha with
        | cons d1 d2 => cases d2 with
          | cons d2 d3 =>
            cases d3
            obtain ⟨_, _, ks, ek⟩ := goodK_of gp
            have d1' := d1
            rw [ek] at d1'
            simp only [NestedKey.data] at d1'
            cases d1' with
            | tup hs1 ha1 => exact ⟨_ :: ts, (p.1, _, _) :: qs, by rw [e]; rfl, .cons ⟨hs, d1, gp⟩ a, .cons ⟨rfl, d1, d2⟩ b⟩
theorem prn_up {G' : Hp} (s : Same G G') {ts : List Addr} {qs : List (NestedKey × Addr × V)} (h : Paired (PrN K G) ts qs) : Paired (PrN K G') ts qs := L2.Paired.mapP h fun t p ⟨a, b, c⟩ => ⟨sqT_mono s a, b.up s, c⟩
theorem enr_of : ∀ {ps : KVs} {qs : List (NestedKey × Addr × V)} {xs : List (NestedKey × Addr × Value)}, Paired (fun (p : NestedKey × PyData) (q : NestedKey × Addr × V) => p.1 = q.1 ∧ Dp K G (.ref q.2.1) p.1.data ∧ Dp K G q.2.2 p.2) ps qs → Paired XvR qs xs → Paired (EnR K G) ps xs
  | _, _, _, .nil, .nil => .nil
  | _, _, _, .cons ⟨e, a, b⟩ t, .cons ⟨e1, e2, r⟩ u => .cons ⟨e.trans e1.symm, by rw [e2]; exact a, _, r, b⟩ (enr_of t u)
end
section
variable {X : Cx} {T : Tb} {E : XK} {a b c e : Expr} {es : List Expr} {ta tb tc : DE} {tq : DQ} {tm : DM} {pos : Pos}
/-- dict([(k, v), ..]) -/
@[simp] def dDictL (tq : DQ) : DM := fun r Q E => tq r (fun b ds => b = true ∧ ∃ ps : KVs, ds = ps.map prD ∧ (∀ p ∈ ps, goodK p.1 = true) ∧ ps.length ≤ sizeLine ∧ Q (.dN (putAll [] ps))) E
theorem made_dict {H G H1 G1 : Hp} {Qd : OD → Prop} {Q : VK} {ps : KVs} {qs : List (NestedKey × Addr × V)} {q : Addr} {xs : List (NestedKey × Addr × Value)} (h1 : HR T H G H1 G1) (hq : H1 q = none)
    (pq : Paired (fun (p : NestedKey × PyData) (q : NestedKey × Addr × V) => p.1 = q.1 ∧ Dp X.K G1 (.ref q.2.1) p.1.data ∧ Dp X.K G1 q.2.2 p.2) ps qs) (xv : Paired XvR qs xs) (gd : ∀ p ∈ ps, goodK p.1 = true) (hl : ps.length ≤ sizeLine)
    (k : ∀ o p u H' G', HR T H G H' G' → NT H p → H' p = some u → G' p = none → OR X.K G' p u o → Qd o → Q (.ref p) H') (w : Qd (.dN (putAll [] ps))) : Q (.ref q) (upd H1 q (DcO q (storedAllH [] xs))) :=
  k (.dN (putAll [] ps)) q _ _ G1 (h1.trans (h1.laidO hq)) ((NT.none hq).back h1.ext) upd_same (G_none h1 hq) ⟨_, rfl, paired_all (enr_of pq xv) .nil, putAll_nodup (by simp), by have := putAll_len ps []; simp at this; omega, putAll_good (fun x hx => nomatch hx) gd⟩ w
theorem fm_dictL {p : Pos} (hc : X.calm = true) (hu : X.A.units + 65 < cLine) (hg : Gl X "dict") (hm : X.mg "dict" = none) (hv : bootBuiltins "dict" = some (.type "dict")) (ha : FQ X T E e tq)
    (he : starEach [e] X.env = (false, eval e X.env) :: starEach [] X.env := by rfl) (hpl : (backTo pos (starEach [] X.env)).any (·.1) = false := by rfl) : FM X T E (.Call (.Name "dict" p) [e] [] pos) (dDictL tq) := by
  refine FM.mk' (pe_callTy (cr_dictN hc hu) hg hm hv (pa_cons ha.pe pa_nil he) (by decide) (by decide) he hpl) fun sg H Q ⟨H0, G0, r, G, Qd, Ed, h, er, w, k, x⟩ => ?_
  refine ⟨H0, G0, r, G, _, Ed, h, er, w, fun b ds a vs H1 G1 h1 sq p1 ⟨hb, ps, e, gd, hl, q⟩ => ?_, x⟩
  subst hb e
  obtain ⟨ts, qs, rfl, pn, pq⟩ := pairs_of p1 gd
  exact ⟨a, ts, qs, rfl, .inl sq, prn_up h1.sub pn, by rw [← paired_len pq]; exact hl, fun q' xs hq xv => made_dict h1 hq pq xv gd hl k q⟩
end
/-! ### defs that make things -/
section
def spM (K : PySem.W.Frag) (T : Tb) (f : List PyData → M OD) : Sp := fun vs H Q E => ∃ ds G Qd Ed, HR T H G H G ∧ DpAll K G vs ds ∧ f ds Qd Ed ∧
  (∀ o p u H' G', HR T H G H' G' → NT H p → H' p = some u → G' p = none → OR K G' p u o → Qd o → Q (.ref p) H') ∧ Xc T E H G Ed
def OkM (P : Program) (w : World) (K : PySem.W.Frag) (mg : Str → Option Value) (base : Heap) (T : Tb) (k : Nat) (x : Str) (ps : List Str) (ff : List PyData → M OD) : Prop :=
  ∃ f fd, FnOk P w K mg base CX0 k f fd ps (spM K T ff) ∧ mg x = some (.ref f) ∧ PySem.W.keepIn K (.ref f) = true ∧ Binds K fd ps []
/-- what a def's one return makes -/
def dFnM (t : DM) (N : List Str) : List PyData → M OD := fun ds Q E => t (startD N ds) Q E
variable {P : Program} {w : World} {K : PySem.W.Frag} {mg : Str → Option Value} {base : Heap} {T : Tb}
theorem mkOkM {x : Str} {st : Stmt} {f : Addr} {N ps : List Str} {k : Nat} {t : DM} {ff : List PyData → M OD} {e : Expr} {pos : Pos} (hbody : defBody st = [.Return (some e) pos]) (F : ∃ fd, FunD K x x (defArgs st) (defBody st) (defScope st) [] [] f fd) (hm : mg x = some (.ref f)) (S : FnScope N ps (defScope st))
    (hbind : ∀ (kV doc pm : Value) (an : Option Addr) (cdv ct : Value) (us : List Value), us.length = ps.length → bindArgs (PySem.W.fnOf x x (defArgs st) (defBody st) (defScope st) .none kV doc pm an cdv ct) ⟨us, []⟩ = pure (ps.zip us))
    (len : ∀ ds Q E, ff ds Q E → ds.length = ps.length)
    (hb : ∀ (cdv : Value) (A : Around) (outer : List Env) (s : Shared) (H : Hp) (E : XK), Room k (A.deeper (envOfC x (defScope st) s.heap.objs.size f cdv)) → FM (cxOf CX0 P w K mg base N x (defScope st) f cdv A outer s H E).nox T E e t)
    (ht : ∀ ds Q E, ff ds Q E → dFnM t N ds Q E) : OkM P w K mg base T (k + 1) x ps ff := by
  obtain ⟨fd, F⟩ := F
  refine ⟨f, fd, F.ok S (fun vs H Q E ⟨ds, G, Qd, Ed, a, b, c, _⟩ => b.len.trans (len ds Qd Ed c)) fun cdv A outer s H vs Q E hr ⟨ds, G, Qd, Ed, a, b, c, d, x⟩ => ⟨_, by rw [hbody]; exact PSs.nox (pss_one (ps_ret (hb cdv A outer s H E hr).pe)), ?_⟩, hm, F.kp, F.bindsN hbind⟩
  exact ⟨H, G, startD N ds, G, _, _, a, er_start (T := T) b, ht ds Qd Ed c, fun o p u H' G' z n hp gp oo q => d o p u H' G' z n hp gp oo q, x⟩
@[simp] def dCallM (f : List PyData → M OD) (t : DA) : DM := fun r Q E => t r (fun ds => f ds Q E) E
variable {X : Cx} {E : XK} {e : Expr} {es : List Expr} {pos : Pos}
theorem fm_def {j k : Nat} {x : Str} {ps : List Str} {p : Pos} {ff : List PyData → M OD} {ts : DA} (F : OkM X.prog X.w X.K X.mg X.base T k x ps ff) (hr : Room j X.A) (hg : Gl X x) (ha : FA X T E (e :: es) ts) (hk : Nat.ble k j = true := by rfl) (hdb : (x == ("__debug__" : Str)) = false := by decide) (he : starEach (e :: es) X.env = (false, eval e X.env) :: starEach es X.env := by rfl)
    (hpl : (backTo pos (starEach es X.env)).any (·.1) = false := by rfl) : FM X T E (.Call (.Name x p) (e :: es) [] pos) (dCallM ff ts) := by
  obtain ⟨f, fd, F, hm, hkp, hb⟩ := F
  refine FM.mk' (pe_call (E := E) F (hr.mono (Nat.le_of_ble_eq_true hk)) hg hm hkp hb .nil passAny ha.pa hdb he hpl) fun sg H Q ⟨H0, G0, r, G, Qd, Ed, h, er, w, k, x⟩ => ?_
  refine ⟨H0, G0, r, G, _, Ed, h, er, w, fun ds vs H1 G1 h1 p1 w1 => ?_, x⟩
  exact ⟨ds, G1, Qd, Ed, h1.refl, by rw [List.append_nil]; exact p1, w1, fun o p u H' G' z n hp gp oo q => k o p u H' G' (h1.trans z) (n.back h1.ext) hp gp oo q, x.up h1⟩
end
end Fd
/-! ### dict(pairs) with ints -/
namespace Fd
open PySem PySem.Spec PyProof.Rows L2 LamX
def putAllI (kvs : IVs) : IVs → IVs
  | [] => kvs
  | p :: ps => putAllI (putI kvs p.1 p.2) ps
theorem putAllI_nodup : ∀ {ps kvs : IVs}, (kvs.map (·.1)).Nodup → ((putAllI kvs ps).map (·.1)).Nodup
  | [], _, h => h
  | p :: ps, _, h => putAllI_nodup (ps := ps) (putI_nodup h)
def prI (p : Int × PyData) : PyData := .tuple [.int p.1, p.2]
section
variable {K : PySem.W.Frag} {G : Hp}
theorem pairedI_all {ps : IVs} {xs : List (Key × V)} (h : Paired (EnI K G) ps xs) : ∀ {acc : List (Key × V)} {kvs : IVs}, Paired (EnI K G) kvs acc → Paired (EnI K G) (putAllI kvs ps) (mergeK acc xs) := by
  induction h with
  | nil => intro acc kvs h; exact h
  | @cons a b l m hab t ih =>
    intro acc kvs h
    obtain ⟨e, h2⟩ := hab
    have := pairedI_put (k := a.1) h h2
    show Paired (EnI K G) (putAllI (putI kvs a.1 a.2) l) (mergeK (putK acc b.1 b.2) m)
    rw [e]
    exact ih this
theorem pairsI_of : ∀ {vs : List V} {ps : IVs}, DpAll K G vs (ps.map prI) → ∃ (ts : List Addr) (qs : List (Key × V)), vs = ts.map V.ref ∧ Paired (fun p kv => SqT K G p [kV kv.1, kv.2]) ts qs ∧ Paired (EnI K G) ps qs
  | _, [], h => by cases h; exact ⟨[], [], rfl, .nil, .nil⟩
  | _, p :: ps, h => by
    cases h with
    | cons h1 h2 =>
      obtain ⟨ts, qs, e, a, b⟩ := pairsI_of h2
      have h1 : Dp K G _ (.tuple [.int p.1, p.2]) := h1
      cases h1 with
      | tup hs ha =>
        cases ha with
        | cons d1 d2 => cases d2 with
          | cons d2 d3 =>
            cases d3
            cases d1
            exact ⟨_ :: ts, (.inl p.1, _) :: qs, by rw [e]; rfl, .cons hs a, .cons ⟨rfl, d2⟩ b⟩
end
section
variable {X : Cx} {T : Tb} {E : XK} {e : Expr} {tq : DQ} {pos : Pos}
@[simp] def dDictI (tq : DQ) : DM := fun r Q E => tq r (fun b ds => b = true ∧ ∃ ps : IVs, ds = ps.map prI ∧ Q (.dI (putAllI [] ps))) E
theorem fm_dictI {p : Pos} (hc : X.calm = true) (hg : Gl X "dict") (hm : X.mg "dict" = none) (hv : bootBuiltins "dict" = some (.type "dict")) (ha : FQ X T E e tq)
    (he : starEach [e] X.env = (false, eval e X.env) :: starEach [] X.env := by rfl) (hpl : (backTo pos (starEach [] X.env)).any (·.1) = false := by rfl) : FM X T E (.Call (.Name "dict" p) [e] [] pos) (dDictI tq) := by
  refine FM.mk' (pe_callTy (call_dictP hc) hg hm hv (pa_cons ha.pe pa_nil he) (by decide) (by decide) he hpl) fun sg H Q ⟨H0, G0, r, G, Qd, Ed, h, er, w, k, x⟩ => ?_
  refine ⟨H0, G0, r, G, _, Ed, h, er, w, fun b ds a vs H1 G1 h1 sq p1 ⟨hb, ps, e, q⟩ => ?_, x⟩
  subst hb e
  obtain ⟨ts, qs, rfl, pn, pq⟩ := pairsI_of p1
  refine ⟨a, ts, qs, rfl, sq, L2.Paired.mapP pn fun t kv h => sqT_mono h1.sub h, fun l hl => ?_⟩
  exact k (.dI (putAllI [] ps)) l _ _ G1 (h1.trans (h1.laidO hl)) ((NT.none hl).back h1.ext) upd_same (G_none h1 hl) ⟨_, rfl, pairedI_all pq .nil, putAllI_nodup (by simp)⟩ q
end
end Fd
end
section
set_option Elab.async false
set_option linter.all false
set_option maxRecDepth 100000
set_option autoImplicit false
set_option maxHeartbeats 4000000
/-! FdI: sorted(d); plain tuples. -/
namespace Fd
open PySem PySem.Spec PyProof.Rows L2 LamX
open PySem.F PySem.W
theorem kdl_raw {prog : Program} {w : World} {d : Addr} (lo : (d == sysModules) = false) (es : Array DictEntry) (ep : Nat) : KdlSrc prog w "dict" d d es.size (fun i v => ∃ hi : i < es.size, v = es[i].key) (fun h => h.DictRaw d es ep) where
  type := fun _ hm => hm.typeIs
  there := fun _ hm => let ⟨_, ho, _⟩ := hm; ⟨Heap.lt_size ho, Heap.lt_size ho⟩
  keep := fun _ _ hm hk => hm.at fun o e => hk d (.inl rfl) o e
  notList := by decide
  notTuple := by decide
  hint := fun _ _ _ _ hm hq => kdl_hint_dict hm.typeIs hq
  iter := fun _ _ hh hm => ⟨_, _, (fun _ _ hq => wpAny_pyIter_dict_raw lo hm hq), Walks.rawKeys hh _ d (let ⟨_, ho, _⟩ := hm; Nat.ne_of_lt (Heap.lt_size ho)) es ep, ⟨⟨_, Heap.get?_push_size _ rfl, rfl, rfl⟩, hm.at fun o e => Heap.get?_push_of_some _ e⟩⟩
section
variable {X : Cx}
def rSortN (K : PySem.W.Frag) : List V → Hp → VK → Prop := fun vs H Q => ∃ (a : Addr) (xs : List (NestedKey × Addr × Value)) (ds : List PyData), vs = [.ref a] ∧ H a = some (DcO a xs) ∧ DKs K H xs ∧ xs.length ≤ sizeLine ∧ ds = xs.map (fun x => x.1.data) ∧ AllAlike ds ∧ Sortable ds ∧ (∀ d ∈ ds, d.depth ≤ 60) ∧
  ∀ p : Addr, H p = none → Q (.ref p) (upd H p (.lst ((((xs.map fun x => V.ref x.2.1).zip ds).mergeSort (dataLe false fun q : V × PyData => q.2)).map (·.1))))
theorem dks_dp {K : PySem.W.Frag} {H : Hp} : ∀ {xs : List (NestedKey × Addr × Value)}, (∀ x ∈ xs, Dp K H (.ref x.2.1) x.1.data ∧ goodK x.1 = true) → DpAll K H (xs.map fun x => V.ref x.2.1) (xs.map fun x => x.1.data)
  | [], _ => .nil
  | x :: xs, h => .cons (h x (List.mem_cons_self ..)).1 (dks_dp fun y hy => h y (List.mem_cons_of_mem _ hy))
theorem vals_refsR : ∀ xs : List (NestedKey × Addr × Value), Vals (xs.map fun x => V.ref x.2.1) (xs.map fun x => Value.ref x.2.1)
  | [] => .nil
  | x :: xs => .cons rfl (vals_refsR xs)
theorem cr_sortN (hc : X.calm = true) (hu : X.A.units + 65 < cLine) : CallR X (.builtin "sorted") (rSortN X.K) := by
  intro pins s σ H vs us Q I r h
  obtain ⟨a, xs, ds, rfl, ha, dk, hz, eds, hal, hk, hdep, q⟩ := h
  rw [Vals.ref1 r]
  obtain ⟨⟨lo, o, es, ep, h2, h3, h4, h5⟩, _⟩ := (show ObjOk X.prog X.w H s.heap a (DcO a xs) from I.hok a _ ha)
  have hes : es.size = xs.length := by rw [← Array.length_toList, h5, List.length_map]
  have hd : DpAll X.K H (xs.map fun x => V.ref x.2.1) ds := by rw [eds]; exact dks_dp dk.keys
  have hxl := hd.len
  have ez : ((xs.map fun x => V.ref x.2.1).zip ds).map (·.2) = ds := zip_snd hxl
  have hzl : ((xs.map fun x => V.ref x.2.1).zip ds).length ≤ sizeLine := by rw [List.length_zip, List.length_map]; omega
  refine Calls.call_function_entry kind_sorted plain_sorted entry_sorted (args_sorted1 _) ?_
  unfold Builtin.«sorted»
  refine wpAny_bind (m := checkCount "sorted" 1 1 _) (wpAny_pure ?_)
  refine wpAny_bind (kdu_collect (A := X.A.in1) (kdl_raw lo es ep) (I.ok.hd hc) ⟨o, h2, h3, h4⟩ (by omega) fun h' tk acc hk1 hacc => ?_)
  have eacc : acc.toList = xs.map fun x => Value.ref x.2.1 := by
    apply List.ext_getElem?
    intro i
    by_cases hi : i < es.size
    · have hai : i < acc.size := by rw [hacc.1]; exact hi
      obtain ⟨hi', e⟩ := hacc.2 i acc[i] (Array.getElem?_eq_getElem hai)
      rw [Array.getElem?_toList, Array.getElem?_eq_getElem hai, e]
      have e2 : es.toList[i]? = some es[i] := by simp [hi]
      rw [h5, List.getElem?_map] at e2
      rw [List.getElem?_map]
      cases qx : xs[i]? with
      | none => rw [qx] at e2; cases e2
      | some x =>
        rw [qx] at e2
        simp only [Option.map_some, Option.some.injEq] at e2
        rw [← e2]
        rfl
    · rw [List.getElem?_eq_none (by rw [Array.length_toList, hacc.1]; omega), List.getElem?_eq_none (by rw [List.length_map]; omega)]
  rw [eacc]
  have I1 : Inv X pins σ H { s with heap := h', toks := tk } := I.kept hk1
  obtain ⟨e1, e2⟩ := each_rel I1 rfl (vals_refsR xs) hd
  generalize hvs : (xs.map fun x => Value.ref x.2.1) = vs at *
  have hvl : vs.length ≤ sizeLine := by rw [← hvs, List.length_map]; exact hz
  have hoL : (h'.push (seqObj "list" vs.toArray 0)).get? h'.objs.size = some (seqObj "list" vs.toArray 0) := Heap.get?_push_size _ rfl
  have k2 : ∀ b u, h'.get? b = some u → (sortingHeap (h'.push (seqObj "list" vs.toArray 0)) h'.objs.size vs).get? b = some u := fun b u q => sortingHeap_old (Nat.ne_of_lt (Heap.lt_size q)) (Heap.get?_push_of_some _ q)
  have er' : EachIs (fun v (b : V × PyData) => ∃ as, Reads (sortingHeap (h'.push (seqObj "list" vs.toArray 0)) h'.objs.size vs) v b.2 as) vs ((xs.map fun x => V.ref x.2.1).zip ds) := e2.mono fun _ _ ⟨as, r⟩ => ⟨as, PyProof.Rows.Reads.keeps k2 r⟩
  have S := SortsAt.data (prog := X.prog) (w := X.w) (A := X.A.in1.in1) (s := { s with heap := sortingHeap (h'.push (seqObj "list" vs.toArray 0)) h'.objs.size vs, toks := tk }) (each_map (R := fun v d => ∃ as, Reads (sortingHeap (h'.push (seqObj "list" vs.toArray 0)) h'.objs.size vs) v d as) (fun q : V × PyData => q.2) er') (by rw [ez]; exact hal) (by rw [ez]; exact hk) (bound_map (fun z hz' => by
    have : z.2 ∈ ds := by rw [← ez]; exact List.mem_map.mpr ⟨z, hz', rfl⟩
    have := hdep _ this
    show X.A.units + 1 + 1 + _ < cLine
    omega))
  refine wpAny_bind (wpAny_newList ?_ hvl)
  refine wpAny_bind (wpAny_holding (wpAny_call_entry F.slot_list_sort ⟨_, hoL, rfl⟩ F.entry_list_sort (list_sort_vals (s := { s with heap := h'.push (seqObj "list" vs.toArray 0), toks := tk }) hoL S hvl ⟨_, rfl, ?_⟩) (args_list_sort _)))
  obtain ⟨c, hcc⟩ := sortedHeap_at (vs := vs) (out := (sortVals (dataKind (sortingHeap (h'.push (seqObj "list" vs.toArray 0)) h'.objs.size vs) (((xs.map fun x => V.ref x.2.1).zip ds).map fun q : V × PyData => q.2)) false vs vs).toArray) hoL
  have hout := sortVals_data false e1 er' (by rw [ez]; exact hal)
  have hlen : ((((xs.map fun x => V.ref x.2.1).zip ds).mergeSort (dataLe false fun q : V × PyData => q.2)).map (·.1)).length ≤ sizeLine := by rw [List.length_map, (List.mergeSort_perm _ _).length_eq]; exact hzl
  refine wpAny_pure ⟨_, rfl, .ref h'.objs.size, upd H h'.objs.size (.lst ((((xs.map fun x => V.ref x.2.1).zip ds).mergeSort (dataLe false fun q : V × PyData => q.2)).map (·.1))), I1.laid (t' := tk) (fun b u q => ?_) (Nat.le_refl _) ⟨hlen, _, c, vals_each hout, hcc⟩, rfl, q _ (I1.hok.fresh (Nat.le_refl _))⟩
  have hlt := Heap.lt_size q
  rw [sortedHeap_old (Nat.ne_of_lt hlt) (by rw [size_push']; exact Nat.lt_succ_of_lt hlt)]
  exact Heap.get?_push_of_some _ q
end
section
variable {X : Cx} {T : Tb} {E : XK} {a b c e : Expr} {es : List Expr} {ta tb tc : DE} {td : DN} {pos : Pos}
/-- sorted(d): its keys, rising -/
@[simp] def dSortN (td : DN) : DA := fun r Q E => td r (fun kvs => AllAlike (kvs.map fun p => p.1.data) ∧ Sortable (kvs.map fun p => p.1.data) ∧ (∀ d ∈ kvs.map (fun p => p.1.data), d.depth ≤ 60) ∧ ∀ out : List PyData, out.Perm (kvs.map fun p => p.1.data) → out.Pairwise (fun a b => dataLt b a = false) → Q out) E
theorem fn_sortN {p : Pos} (hc : X.calm = true) (hu : X.A.units + 65 < cLine) (hg : Gl X "sorted") (hm : X.mg "sorted" = none) (hv : bootBuiltins "sorted" = some (.builtin "sorted")) (ha : FD X T E e td)
    (he : starEach [e] X.env = (false, eval e X.env) :: starEach [] X.env := by rfl) (hpl : (backTo pos (starEach [] X.env)).any (·.1) = false := by rfl) : FN X T E (.Call (.Name "sorted" p) [e] [] pos) (dSortN td) := by
  refine FN.mk' (pe_callB (cr_sortN hc hu) hg hm hv (pa_cons ha.pe pa_nil he) (by decide) (by decide) he hpl) fun sg H Q ⟨H0, G0, r, G, Qd, Ed, h, er, w, k, x⟩ => ?_
  refine ⟨H0, G0, r, G, _, Ed, h, er, w, fun kvs a u H1 G1 h1 hp ⟨xs, eu, pr, nd, hl, gd⟩ ⟨hal, hk, hdep, q⟩ => ?_, x⟩
  subst eu
  have dk := dks_of pr h1.sub nd gd
  have dk1 := dks_of pr (Same.refl _) nd gd
  have eds : (kvs.map fun p => p.1.data) = xs.map fun x => x.1.data := by
    have := congrArg (List.map NestedKey.data) (paired_keys pr)
    simpa [List.map_map, Function.comp_def] using this
  refine ⟨a, xs, _, rfl, hp, dk, by rw [← paired_len pr]; exact hl, eds, hal, hk, hdep, fun l hl' => ?_⟩
  have p1 : DpAll X.K G1 (xs.map fun x => V.ref x.2.1) (kvs.map fun p => p.1.data) := by rw [eds]; exact dks_dp dk1.keys
  have ez : ((xs.map fun x => V.ref x.2.1).zip (kvs.map fun p => p.1.data)).map (·.2) = kvs.map fun p => p.1.data := zip_snd p1.len
  have TL := sortLe_total (listOrd itemOrd) false fun q : V × PyData => keyToks q.2
  have hpm := List.mergeSort_perm ((xs.map fun x => V.ref x.2.1).zip (kvs.map fun p => p.1.data)) (dataLe false fun q : V × PyData => q.2)
  have hpw : (((xs.map fun x => V.ref x.2.1).zip (kvs.map fun p => p.1.data)).mergeSort (dataLe false fun q : V × PyData => q.2)).Pairwise (fun a b => dataLe false (fun q : V × PyData => q.2) a b = true) := List.pairwise_mergeSort (fun a b c => TL.trans a b c) (fun a b => by rw [Bool.or_eq_true]; exact TL.total a b) _
  refine k _ l _ _ G1 (h1.trans (h1.laidO hl')) ((NT.none hl').back h1.ext) upd_same (G_none h1 hl') (dpAll_pairs fun z hz => dpAll_of_zip p1 z (hpm.mem_iff.mp hz)) (q _ ?_ ?_)
  · have := hpm.map (·.2)
    rw [ez] at this
    exact this
  · rw [List.pairwise_map]
    refine hpw.imp fun {a b} hab => ?_
    have : (!dataLt b.2 a.2) = true := hab
    simpa using this
end
end Fd
end
section
set_option Elab.async false
set_option linter.all false
set_option maxRecDepth 100000
set_option autoImplicit false
set_option maxHeartbeats 4000000
/-! FdJ: defs that give plain tuples; dict(plain tuple). -/
namespace Fd
open PySem PySem.Spec PyProof.Rows L2 LamX
section
variable (K : PySem.W.Frag) (T : Tb) (E : XK)
def lfP (t : DE) : TE := fun sg H Q => ∃ H0 G0 r G Qd Ed, HR T H0 G0 H G ∧ ER K H0 r sg H G ∧ t r Qd Ed ∧
  (∀ d v H' G', HR T H G H' G' → Dp K G' v d → PlT G' v → Qd d → Q v H') ∧ Xc T E H G Ed
structure EndRP (H0 G0 G : Hp) (Dd : DEnds) (D : Ends) : Prop where
  nx : ∀ r sg H' G', HR T H0 G0 H' G' → Same G G' → ER K H0 r sg H' G' → Dd.nx r → D.nx sg H'
  bk : ∀ r sg H' G', HR T H0 G0 H' G' → Same G G' → ER K H0 r sg H' G' → Dd.bk r → D.bk sg H'
  ct : ∀ r sg H' G', HR T H0 G0 H' G' → Same G G' → ER K H0 r sg H' G' → Dd.ct r → D.ct sg H'
  rt : ∀ d v H' G', HR T H0 G0 H' G' → Dp K G' v d → PlT G' v → Dd.rt d → D.rt v H'
  ex : ∀ c H' G', HR T H0 G0 H' G' → Dd.ex c → E c none H'
def lfSP (t : DS) : TS := fun D sg H => ∃ H0 G0 r G Dd, HR T H0 G0 H G ∧ ER K H0 r sg H G ∧ t Dd r ∧ EndRP K T E H0 G0 G Dd D
end
section
variable (X : Cx) (T : Tb) (E : XK)
structure FP (e : Expr) (t : DE) : Prop where
  pe : PE X e (lfP X.K T E t)
structure FSP (st : List Stmt) (t : DS) : Prop where
  pss : PSs X st (lfSP X.K T E t)
end
section
variable {X : Cx} {T : Tb} {E : XK} {a b c e : Expr} {es : List Expr} {te ta tb tc : DE} {tq : DQ} {pos : Pos} {st : Stmt} {rest : List Stmt} {t u : DS}
theorem FP.mk' {t : DE} {te : TE} (h : PE X e te) (q : ∀ sg H Q, lfP X.K T E t sg H Q → te sg H Q) : FP X T E e t := ⟨⟨fun pins s sg H Q I w => h.run pins s sg H Q I (q sg H Q w)⟩⟩
theorem FP.fe (h : FP X T E e te) : FE X T E e te := FE.mk' h.pe fun sg H Q ⟨H0, G0, r, G, Qd, Ed, h, er, w, k, x⟩ => ⟨H0, G0, r, G, Qd, Ed, h, er, w, fun d v H' G' z p _ q => k d v H' G' z p q, x⟩
/-- ahead of the return nothing is returned -/
@[simp] def dThenP (t u : DS) : DS := fun D r => t { D with nx := u D, rt := fun _ => False } r
theorem fsp_cons (h1 : FS X T E st t) (h2 : FSP X T E rest u) : FSP X T E (st :: rest) (dThenP t u) := by
  refine ⟨⟨fun pins s sg H D I w => (pss_cons h1.ps h2.pss).run pins s sg H D I ?_⟩⟩
  obtain ⟨H0, G0, r, G, Dd, h, er, w, k⟩ := w
  refine ⟨H0, G0, r, G, _, h, er, w, fun r' sg' H' G' a b c d => ⟨H0, G0, r', G', Dd, a, c, d, ⟨fun r2 sg2 H2 G2 a2 b2 => k.nx r2 sg2 H2 G2 a2 (b.trans b2), fun r2 sg2 H2 G2 a2 b2 => k.bk r2 sg2 H2 G2 a2 (b.trans b2), fun r2 sg2 H2 G2 a2 b2 => k.ct r2 sg2 H2 G2 a2 (b.trans b2), k.rt, k.ex⟩⟩, k.bk, k.ct, fun _ _ _ _ _ _ z => z.elim, k.ex⟩
theorem fsp_ret (he : FP X T E e te) : FSP X T E [.Return (some e) pos] (dRet te) := by
  refine ⟨⟨fun pins s sg H D I w => (pss_one (ps_ret he.pe)).run pins s sg H D I ?_⟩⟩
  obtain ⟨H0, G0, r, G, Dd, h, er, w, k⟩ := w
  exact ⟨H0, G0, r, G, _, _, h, er, w, fun d v H' G' z p pl q => k.rt d v H' G' (h.trans z) p pl q, fun c H' G' z q => k.ex c H' G' (h.trans z) q⟩
/-- tuple(a list): a plain one -/
def rTupP (K : PySem.W.Frag) : List V → Hp → VK → Prop := fun xs H Q => ∃ p ys, xs = [.ref p] ∧ SqL K H p ys ∧ ∀ l o, H l = none → o.dict = none → Q (.ref l) (upd H l (.frz o (.tup ys)))
theorem cr_tupP : CallR X (.type "tuple") (rTupP X.K) := by
  intro pins s σ H xs us Q I r h
  obtain ⟨p, ys, rfl, hq, q⟩ := h
  obtain ⟨u, rfl, rx⟩ := vals1 r
  cases rx
  obtain ⟨its, r', pl, hz⟩ := I.list hq
  have hlen := r'.length
  refine call_tuple_list pl.isList (fun h' kp => ?_) (by simp only [List.size_toArray] <;> omega)
  have I1 : Inv X pins σ H { s with heap := h' } := I.kept (t' := s.toks) kp
  have hg : (h'.push { cls := .type "tuple", data := .seq its.toArray }).get? h'.objs.size = some { cls := .type "tuple", data := .seq its.toArray } := Heap.get?_push_size _ rfl
  have I2 : Inv X pins σ (upd H h'.objs.size (.frz { cls := .type "tuple", data := .seq its.toArray } (.tup ys))) { s with heap := h'.push { cls := .type "tuple", data := .seq its.toArray } } :=
    I1.laid (t' := s.toks) (fun b o e => Heap.get?_push_of_some _ e) (Nat.le_refl _) (show ObjOk X.prog X.w _ _ _ (.frz _ (.tup ys)) from ⟨hg, hz, its, r', IsTup.new _ _⟩)
  exact ⟨.ref h'.objs.size, _, I2, rfl, q _ _ (I1.hok.fresh (Nat.le_refl _)) rfl⟩
@[simp] def dTupP (tq : DQ) : DE := fun r Q E => tq r (fun b ds => b = true ∧ Q (.tuple ds)) E
theorem fp_tuple {p : Pos} (hg : Gl X "tuple") (hm : X.mg "tuple" = none) (hv : bootBuiltins "tuple" = some (.type "tuple")) (ha : FQ X T E e tq)
    (he : starEach [e] X.env = (false, eval e X.env) :: starEach [] X.env := by rfl) (hpl : (backTo pos (starEach [] X.env)).any (·.1) = false := by rfl) : FP X T E (.Call (.Name "tuple" p) [e] [] pos) (dTupP tq) := by
  refine FP.mk' (pe_callTy cr_tupP hg hm hv (pa_cons ha.pe pa_nil he) (by decide) (by decide) he hpl) fun sg H Q ⟨H0, G0, r, G, Qd, Ed, h, er, w, k, x⟩ => ?_
  refine ⟨H0, G0, r, G, _, Ed, h, er, w, fun b ds a vs H1 G1 h1 sq p1 ⟨hb, q⟩ => ?_, x⟩
  subst hb
  refine ⟨a, vs, rfl, sq, fun l o hl ho => ?_⟩
  have z := h1.laid hl (o := .frz o (.tup vs)) (fun ps q => by cases q)
  exact k _ _ _ _ (h1.trans z) (.tup (.inl (.inr ⟨o, upd_same⟩)) (p1.up z.g0)) ⟨l, o, vs, rfl, upd_same, ho⟩ q
/-- dict(a plain tuple of pairs) -/
@[simp] def dDictT (t : DE) : DM := fun r Q E => t r (fun d => ∃ ps : KVs, d = .tuple (ps.map Fd.prD) ∧ (∀ p ∈ ps, goodK p.1 = true) ∧ ps.length ≤ sizeLine ∧ Q (.dN (putAll [] ps))) E
theorem fm_dictT {p : Pos} (hc : X.calm = true) (hu : X.A.units + 65 < cLine) (hg : Gl X "dict") (hm : X.mg "dict" = none) (hv : bootBuiltins "dict" = some (.type "dict")) (ha : FP X T E e te)
    (he : starEach [e] X.env = (false, eval e X.env) :: starEach [] X.env := by rfl) (hpl : (backTo pos (starEach [] X.env)).any (·.1) = false := by rfl) : FM X T E (.Call (.Name "dict" p) [e] [] pos) (dDictT te) := by
  refine FM.mk' (pe_callTy (cr_dictN hc hu) hg hm hv (pa_cons ha.pe pa_nil he) (by decide) (by decide) he hpl) fun sg H Q ⟨H0, G0, r, G, Qd, Ed, h, er, w, k, x⟩ => ?_
  refine ⟨H0, G0, r, G, _, Ed, h, er, w, fun d v H1 G1 h1 p1 pl ⟨ps, e, gd, hl, q⟩ => ?_, x⟩
  subst e
  cases p1 with
  | tup hs ha =>
    obtain ⟨ts, qs, rfl, pn, pq⟩ := pairs_of ha gd
    exact ⟨_, ts, qs, rfl, .inr ⟨sqT_mono h1.sub hs, pl.up h1.sub⟩, prn_up h1.sub pn, by rw [← paired_len pq]; exact hl, fun q' xs hq xv => made_dict h1 hq pq xv gd hl k q⟩
end
/-! ### defs -/
section
def spP (K : PySem.W.Frag) (T : Tb) (f : List PyData → M PyData) : Sp := fun vs H Q E => ∃ ds G Qd Ed, HR T H G H G ∧ DpAll K G vs ds ∧ f ds Qd Ed ∧
  (∀ d v H' G', HR T H G H' G' → Dp K G' v d → PlT G' v → Qd d → Q v H') ∧ Xc T E H G Ed
def OkP (P : Program) (w : World) (K : PySem.W.Frag) (mg : Str → Option Value) (base : Heap) (T : Tb) (k : Nat) (x : Str) (ps : List Str) (ff : List PyData → M PyData) : Prop :=
  ∃ f fd, FnOk P w K mg base CX0 k f fd ps (spP K T ff) ∧ mg x = some (.ref f) ∧ PySem.W.keepIn K (.ref f) = true ∧ Binds K fd ps []
variable {P : Program} {w : World} {K : PySem.W.Frag} {mg : Str → Option Value} {base : Heap} {T : Tb}
theorem mkOkP {x : Str} {st : Stmt} {f : Addr} {N ps : List Str} {k : Nat} {t : DS} {ff : List PyData → M PyData} (F : ∃ fd, FunD K x x (defArgs st) (defBody st) (defScope st) [] [] f fd) (hm : mg x = some (.ref f)) (S : FnScope N ps (defScope st))
    (hbind : ∀ (kV doc pm : Value) (an : Option Addr) (cdv ct : Value) (us : List Value), us.length = ps.length → bindArgs (PySem.W.fnOf x x (defArgs st) (defBody st) (defScope st) .none kV doc pm an cdv ct) ⟨us, []⟩ = pure (ps.zip us))
    (len : ∀ ds Q E, ff ds Q E → ds.length = ps.length)
    (hb : ∀ (cdv : Value) (A : Around) (outer : List Env) (s : Shared) (H : Hp) (E : XK), Room k (A.deeper (envOfC x (defScope st) s.heap.objs.size f cdv)) → FSP (cxOf CX0 P w K mg base N x (defScope st) f cdv A outer s H E).nox T E (defBody st) t)
    (ht : ∀ ds Q E, ff ds Q E → t { nx := fun _ => False, rt := Q, ex := E } (startD N ds)) : OkP P w K mg base T (k + 1) x ps ff := by
  obtain ⟨fd, F⟩ := F
  refine ⟨f, fd, F.ok S (fun vs H Q E ⟨ds, G, Qd, Ed, a, b, c, _⟩ => b.len.trans (len ds Qd Ed c)) fun cdv A outer s H vs Q E hr ⟨ds, G, Qd, Ed, a, b, c, d, x⟩ => ⟨_, PSs.nox (hb cdv A outer s H E hr).pss, ?_⟩, hm, F.kp, F.bindsN hbind⟩
  exact ⟨H, G, startD N ds, G, _, a, er_start (T := T) b, ht ds Qd Ed c, ⟨fun _ _ _ _ _ _ _ q => q.elim, fun _ _ _ _ _ _ _ q => q.elim, fun _ _ _ _ _ _ _ q => q.elim, fun dd v H' G' z p pl q => d dd v H' G' z p pl q, fun c H' G' z q => x c H' G' z q⟩⟩
variable {X : Cx} {E : XK} {e : Expr} {es : List Expr} {pos : Pos}
theorem fp_def {j k : Nat} {x : Str} {ps : List Str} {p : Pos} {ff : List PyData → M PyData} {ts : DA} (F : OkP X.prog X.w X.K X.mg X.base T k x ps ff) (hr : Room j X.A) (hg : Gl X x) (ha : FA X T E (e :: es) ts) (hk : Nat.ble k j = true := by rfl) (hdb : (x == ("__debug__" : Str)) = false := by decide) (he : starEach (e :: es) X.env = (false, eval e X.env) :: starEach es X.env := by rfl)
    (hpl : (backTo pos (starEach es X.env)).any (·.1) = false := by rfl) : FP X T E (.Call (.Name x p) (e :: es) [] pos) (dCall ff ts) := by
  obtain ⟨f, fd, F, hm, hkp, hb⟩ := F
  refine FP.mk' (pe_call (E := E) F (hr.mono (Nat.le_of_ble_eq_true hk)) hg hm hkp hb .nil passAny ha.pa hdb he hpl) fun sg H Q ⟨H0, G0, r, G, Qd, Ed, h, er, w, k, x⟩ => ?_
  refine ⟨H0, G0, r, G, _, Ed, h, er, w, fun ds vs H1 G1 h1 p1 w1 => ?_, x⟩
  exact ⟨ds, G1, Qd, Ed, h1.refl, by rw [List.append_nil]; exact p1, w1, fun d v H' G' z p pl q => k d v H' G' (h1.trans z) p pl q, x.up h1⟩
end
end Fd
/-! ### a, b = x, y -/
namespace Fd
open PySem PySem.Spec PyProof.Rows L2 LamX
section
variable {X : Cx} {T : Tb} {E : XK} {a b c : Expr} {ts : DA} {pos px py pz pt pt2 : Pos}
@[simp] def dPar (i j : Nat) (ta : DA) : DS := fun D r => ta r (fun ds => ∃ x y, ds = [x, y] ∧ D.nx ((r.set i (.dat x)).set j (.dat y))) D.ex
theorem fs_par {i j : Nat} {x y : Str} {kt k2 : Nat} (hc : X.calm = true) (hN : X.N.Nodup) (hi : X.N[i]? = some x) (hj : X.N[j]? = some y) (hij : i ≠ j) (hx : X.env.scope.names.lookup x = some .local) (hy : X.env.scope.names.lookup y = some .local) (hw : swappedStores [.Tuple [.Name x px, .Name y py] kt pt] (.Tuple [a, b] k2 pt2) X.env = pure (some [x, y])) (ha : FA X T E [a, b] ts) :
    FS X T E (.Assign [.Tuple [.Name x px, .Name y py] kt pt] (.Tuple [a, b] k2 pt2) pos) (dPar i j ts) := by
  refine FS.mk' (ps_par hc hN hi hj hij hx hy ha.pa hw) fun D sg H ⟨H0, G0, r, G, Dd, h, er, w, k⟩ => ?_
  refine ⟨H0, G0, r, G, _, _, h, er, w, fun ds vs H' G' z p ⟨d1, d2, e, q⟩ => ?_, k.xc h⟩
  subst e
  cases p with
  | cons p1 p2 => cases p2 with
    | cons p2 p3 =>
      cases p3
      exact ⟨_, _, rfl, k.nx _ _ H' G' (h.trans z) z.g0 (((er.grow z).set i p1).set j p2) q⟩
@[simp] def dPar3 (i j l : Nat) (ta : DA) : DS := fun D r => ta r (fun ds => ∃ x y z, ds = [x, y, z] ∧ D.nx (((r.set i (.dat x)).set j (.dat y)).set l (.dat z))) D.ex
theorem fs_par3 {i j l : Nat} {x y z : Str} {kt k2 : Nat} (hc : X.calm = true) (hN : X.N.Nodup) (hi : X.N[i]? = some x) (hj : X.N[j]? = some y) (hl : X.N[l]? = some z) (hij : i ≠ j) (hil : i ≠ l) (hjl : j ≠ l) (hx : X.env.scope.names.lookup x = some .local) (hy : X.env.scope.names.lookup y = some .local) (hz : X.env.scope.names.lookup z = some .local) (hw : swappedStores [.Tuple [.Name x px, .Name y py, .Name z pz] kt pt] (.Tuple [a, b, c] k2 pt2) X.env = pure (some [x, y, z])) (ha : FA X T E [a, b, c] ts) :
    FS X T E (.Assign [.Tuple [.Name x px, .Name y py, .Name z pz] kt pt] (.Tuple [a, b, c] k2 pt2) pos) (dPar3 i j l ts) := by
  refine FS.mk' (ps_par3 hc hN hi hj hl hij hil hjl hx hy hz ha.pa hw) fun D sg H ⟨H0, G0, r, G, Dd, h, er, w, k⟩ => ?_
  refine ⟨H0, G0, r, G, _, _, h, er, w, fun ds vs H' G' zz p ⟨d1, d2, d3, e, q⟩ => ?_, k.xc h⟩
  subst e
  cases p with
  | cons p1 p2 => cases p2 with
    | cons p2 p3 => cases p3 with
      | cons p3 p4 =>
        cases p4
        exact ⟨_, _, _, rfl, k.nx _ _ H' G' (h.trans zz) zz.g0 ((((er.grow zz).set i p1).set j p2).set l p3) q⟩
end
end Fd
end
section
set_option Elab.async false
set_option linter.all false
set_option maxRecDepth 100000
set_option autoImplicit false
set_option maxHeartbeats 2000000
/-! FdK: xs.count(x) over a list of data. -/
namespace Fd
open PySem PySem.Spec PyProof.Rows L2 LamX
section
variable {X : Cx} {T : Tb} {E : XK} {a b e : Expr} {es : List Expr} {ta tb : DE} {tq : DQ} {pos : Pos}
def cntD (ds : List PyData) (d : PyData) : Nat := ds.countP fun z => PyData.eqv z d
def rCountD (K : PySem.W.Frag) : V → List V → Hp → VK → Prop := fun x xs H Q => ∃ (a : Addr) (y : V) (d : PyData) (ds : List PyData), x = V.ref a ∧ xs = [y] ∧ Dp K H (V.ref a) (.list ds) ∧ Dp K H y d ∧
  SeqAt.shaped (.list ds) = true ∧ SeqAt.shaped d = true ∧ Q (.int (cntD ds d : Nat)) H
theorem mt_countD (hu : X.A.units + 65 < cLine) : MtR X "list.count" (rCountD X.K) := by
  intro pins s σ H x xs v us Q I rx rxs h
  obtain ⟨a, y, d, ds, rfl, rfl, hl, hy, sl, sd, q⟩ := h
  cases rx
  cases rxs with
  | cons ry rt =>
    rename_i uy ut
    cases rt
    obtain ⟨bs, r1⟩ := Dp.reads I d y uy hy ry
    have hxs : PyData.canLayAll0 ds = true := SeqAt.canLay_of_shaped sl
    have hroom : X.A.units + 1 + min (PyData.depthAll ds) d.depth < cLine := room_in_shaped sd hu
    cases hl with
    | lst hs ha =>
      obtain ⟨its, rv, ⟨⟨cls, dd, data, sls⟩, n, ho, hc, hdn, hdt⟩, hlen⟩ := I.list hs
      simp only at hc hdt
      subst hc hdt
      obtain ⟨as, h4⟩ := Dp.readsAll I ds _ its ha rv
      have hmap : its.map (SeqAt.readOf s.heap) = ds := SeqAt.readsAll_map ds its as hxs h4
      refine call_meets PySem.F.slot_list_count ⟨_, ho, rfl⟩ PySem.F.entry_list_count (PySem.F.args_list_count_2 _ _)
        (SeqAt.list_countAt a its.toArray n dd sls uy (fun u => PyData.eqv (SeqAt.readOf s.heap u) d)) ⟨ho, SeqAt.items_eqAt (vs := its.toArray) (show ReadsAll s.heap its.toArray.toList ds as from h4) r1 hxs (SeqAt.canLay_of_shaped sd) hroom, ?_⟩
      have ec : its.toArray.toList.countP (fun u => PyData.eqv (SeqAt.readOf s.heap u) d) = cntD ds d := by
        rw [cntD, ← hmap, List.countP_map]
        rfl
      refine ⟨.int (cntD ds d : Nat), H, I.tok _, ⟨s.toks, ?_⟩, q⟩
      show Value.int ((its.toArray.toList.countP (fun u => PyData.eqv (SeqAt.readOf s.heap u) d) : Nat) : Int) s.toks = Value.int ((cntD ds d : Nat) : Int) s.toks
      rw [ec]
@[simp] def dCount (tq : DQ) (ta : DE) : DE := fun r Q E => tq r (fun b ds => b = true ∧ ta r (fun d => SeqAt.shaped d = true ∧ SeqAt.shaped (.list ds) = true ∧ Q (.int (cntD ds d : Nat))) E) E
theorem fe_count {apos cpos : Pos} (hu : X.A.units + 65 < cLine) (ho : FQ X T E a tq) (he : FE X T E e ta)
    (hbase : attributeBase a "count" X.env (eval a X.env) = eval a X.env := by rfl)
    (hfew : ((backTo cpos (starEach [e] X.env)).all (fun x => !x.1) && (backToKw cpos (keywordEach [] X.env)).all (fun x => x.1.isSome) && decide ([e].length + ([] : List Keyword).length + (if ([] : List Keyword).isEmpty then 0 else 1) < 30)) = true := by rfl)
    (hline : (apos.endLine == cpos.line) = true := by rfl) (hs : starEach [e] X.env = (false, eval e X.env) :: starEach [] X.env := by rfl) (hplain : (backTo cpos (starEach [] X.env)).any (·.1) = false := by rfl) :
    FE X T E (.Call (.Attribute a "count" apos) [e] [] cpos) (dCount tq ta) := by
  refine FE.mk' (pe_bm PySem.F.plainAttrs_list PySem.F.slot_list_count PySem.F.type_list_count (mt_countD hu) ho.pe (pa_cons he.pe pa_nil hs) hbase hfew hline hs hplain) fun sg H Q ⟨H0, G0, r, G, Qd, Ed, h, er, w, k, x⟩ => ?_
  refine ⟨H0, G0, r, G, _, Ed, h, er, w, fun bb ds p vs H1 G1 h1 sq p1 ⟨hb, w1⟩ => ?_, x⟩
  subst hb
  refine ⟨.inl ⟨rfl, vs, sq⟩, H0, G0, r, G1, _, Ed, h.trans h1, er.grow h1, w1, fun d2 v2 H2 G2 h2 p2 ⟨s1, s2, q⟩ => ?_, x.up h1⟩
  exact ⟨p, v2, d2, ds, rfl, rfl, .lst (sqA_ext (bb := true) h2.ext sq) ((p1.up h2.g0).up h2.sub), p2.up h2.sub, s2, s1, k _ _ H2 G2 (h1.trans h2) (.int _) q⟩
end
end Fd
end
section
set_option Elab.async false
set_option linter.all false
set_option maxRecDepth 100000
set_option autoImplicit false
set_option maxHeartbeats 2000000
/-! FdL: groups of things that grow (a list of lists, each still one's own): the loop of a def that puts each thing to the first group that is told, or begins one. -/
namespace Fd
open PySem PySem.Spec PyProof.Rows L2 LamX

def noObj : Ev → Bool
  | [] => true
  | .obj _ :: _ => false
  | .no :: r => noObj r
  | .dat _ :: r => noObj r
  | .fct _ :: r => noObj r
theorem noObj_at : ∀ {r : Ev} {i : Nat} {o : OD}, noObj r = true → r[i]? ≠ some (.obj o)
  | [], _, _, _ => by simp
  | .obj _ :: _, _, _, h => by simp [noObj] at h
  | .no :: r, 0, _, _ => by simp
  | .dat _ :: r, 0, _, _ => by simp
  | .fct _ :: r, 0, _, _ => by simp
  | .no :: r, i + 1, o, h => by simpa using noObj_at (r := r) (i := i) (o := o) h
  | .dat _ :: r, i + 1, o, h => by simpa using noObj_at (r := r) (i := i) (o := o) h
  | .fct _ :: r, i + 1, o, h => by simpa using noObj_at (r := r) (i := i) (o := o) h
theorem noObj_of : ∀ {r : Ev}, (∀ (i : Nat) o, r[i]? ≠ some (.obj o)) → noObj r = true
  | [], _ => rfl
  | .obj o :: _, h => absurd rfl (h 0 o)
  | .no :: r, h => noObj_of (r := r) fun i o => by simpa using h (i + 1) o
  | .dat _ :: r, h => noObj_of (r := r) fun i o => by simpa using h (i + 1) o
  | .fct _ :: r, h => noObj_of (r := r) fun i o => by simpa using h (i + 1) o
section
variable {K : PySem.W.Frag} {T : Tb} {H0 G0 H G H' G' G2 : Hp} {r : Ev} {sg : L2.St}
/-- what was frozen meanwhile is forgotten again -/
theorem HR.back (h : HR T H0 G0 H G) (s : Same G G2) (z : HR T H G2 H' G') : HR T H0 G0 H' G :=
  ⟨s.trans (z.g0.trans z.sub), h.nt, z.tabs, h.ext.trans z.ext, h.g0, h.new⟩
theorem ER.plain (n : noObj r = true) (e : ER K H0 r sg H G) (s : Same G G') : ER K H0 r sg H' G' :=
  ⟨e.len, fun i d z => let ⟨v, a, b⟩ := e.dat i d z; ⟨v, a, b.up s⟩, fun i o z => absurd z (noObj_at n), fun i j o o' p z => absurd z (noObj_at n), fun i f z => let ⟨v, a, b⟩ := e.fct i f z; ⟨v, a, b.up s⟩⟩
theorem ER.slot {i : Nat} {o : Option V} (n : noObj r = true) (e : ER K H0 r sg H G) (hi : r[i]? = some .no) : ER K H0 r (sg.set i o) H G :=
  ⟨by simp [e.len], fun j d z => (by
    obtain ⟨v, a, b⟩ := e.dat j d z
    refine ⟨v, ?_, b⟩
    rw [List.getElem?_set_ne]
    · exact a
    · intro q
      rw [← q, hi] at z
      exact Sl.noConfusion (Option.some.inj z)), fun i o z => absurd z (noObj_at n), fun i j o o' p z => absurd z (noObj_at n), fun j f z => (by
    obtain ⟨v, a, b⟩ := e.fct j f z
    refine ⟨v, ?_, b⟩
    rw [List.getElem?_set_ne]
    · exact a
    · intro q
      rw [← q, hi] at z
      exact Sl.noConfusion (Option.some.inj z))⟩
theorem ER.forget (e : ER K H0 r sg H G) (i : Nat) : ER K H0 (r.set i .no) sg H G := by
  have at_ : ∀ (j : Nat) (x : Sl), x ≠ .no → (r.set i .no)[j]? = some x → r[j]? = some x := fun j x hx z => by
    rcases getSet z with ⟨_, q⟩ | ⟨_, q⟩
    · exact absurd q hx
    · exact q
  refine ⟨by simp [e.len], fun j d z => e.dat j d (at_ j _ (by simp) z), fun j o z => e.obj j o (at_ j _ (by simp) z), fun j k o o' p z z' => e.inj j k o o' p (at_ j _ (by simp) z) (at_ k _ (by simp) z'), fun j f z => e.fct j f (at_ j _ (by simp) z)⟩
end

/-! ### groups -/
def Grp (K : PySem.W.Frag) (H0 H G : Hp) : List Addr → List (List PyData) → Prop
  | [], [] => True
  | q :: qs, g :: gs => (∃ vs, H q = some (.lst vs) ∧ DpAll K G vs g) ∧ G q = none ∧ NT H0 q ∧ Grp K H0 H G qs gs
  | _, _ => False
section
variable {K : PySem.W.Frag} {T : Tb} {H0 G0 H G H' G' G2 : Hp}
theorem Grp.len : ∀ {qs : List Addr} {gs : List (List PyData)}, Grp K H0 H G qs gs → qs.length = gs.length
  | [], [], _ => rfl
  | _ :: qs, _ :: gs, h => congrArg Nat.succ (Grp.len (qs := qs) (gs := gs) h.2.2.2)
  | [], _ :: _, h => h.elim
  | _ :: _, [], h => h.elim
theorem Grp.ext (e : ExtN H H') : ∀ {qs : List Addr} {gs : List (List PyData)}, Grp K H0 H G qs gs → Grp K H0 H' G qs gs
  | [], [], _ => trivial
  | _ :: qs, _ :: gs, ⟨⟨vs, a, b⟩, c, d, h⟩ => ⟨⟨vs, e _ _ a (fun ps q => by cases q), b⟩, c, d, Grp.ext e h⟩
  | [], _ :: _, h => h.elim
  | _ :: _, [], h => h.elim
theorem Grp.poke {p : Addr} {u : HO} : ∀ {qs : List Addr} {gs : List (List PyData)}, p ∉ qs → Grp K H0 H G qs gs → Grp K H0 (upd H p u) G qs gs
  | [], [], _, _ => trivial
  | q :: qs, _ :: gs, n, ⟨⟨vs, a, b⟩, c, d, h⟩ => ⟨⟨vs, by rw [upd_ne (fun z => n (by simp [z]))]; exact a, b⟩, c, d, Grp.poke (fun z => n (by simp [z])) h⟩
  | [], _ :: _, _, h => h.elim
  | _ :: _, [], _, h => h.elim
theorem Grp.frz {p : Addr} {u : HO} (s : Same G (upd G p u)) : ∀ {qs : List Addr} {gs : List (List PyData)}, p ∉ qs → Grp K H0 H G qs gs → Grp K H0 H (upd G p u) qs gs
  | [], [], _, _ => trivial
  | q :: qs, _ :: gs, n, ⟨⟨vs, a, b⟩, c, d, h⟩ => ⟨⟨vs, a, b.up s⟩, by rw [upd_ne (fun z => n (by simp [z]))]; exact c, d, Grp.frz s (fun z => n (by simp [z])) h⟩
  | [], _ :: _, _, h => h.elim
  | _ :: _, [], _, h => h.elim
theorem Grp.at : ∀ {qs : List Addr} {gs : List (List PyData)} {j : Nat} {q : Addr}, Grp K H0 H G qs gs → qs[j]? = some q → ∃ g vs, gs[j]? = some g ∧ H q = some (.lst vs) ∧ DpAll K G vs g ∧ G q = none ∧ NT H0 q
  | [], _, _, _, _, e => by simp at e
  | _ :: _, [], _, _, h, _ => h.elim
  | _ :: qs, g :: gs, 0, q, ⟨⟨vs, a, b⟩, c, d, h⟩, e => by
    simp at e
    subst e
    exact ⟨g, vs, rfl, a, b, c, d⟩
  | _ :: qs, g :: gs, j + 1, q, ⟨_, c, d, h⟩, e => by
    obtain ⟨g', vs, h1, h2⟩ := Grp.at (j := j) (q := q) h (by simpa using e)
    exact ⟨g', vs, by simpa using h1, h2⟩
theorem Grp.snoc {l : Addr} {g : List PyData} (h1 : (∃ vs, H l = some (.lst vs) ∧ DpAll K G vs g) ∧ G l = none ∧ NT H0 l) : ∀ {qs : List Addr} {gs : List (List PyData)}, Grp K H0 H G qs gs → Grp K H0 H G (qs ++ [l]) (gs ++ [g])
  | [], [], _ => ⟨h1.1, h1.2.1, h1.2.2, trivial⟩
  | _ :: qs, _ :: gs, ⟨a, c, d, h⟩ => ⟨a, c, d, Grp.snoc h1 h⟩
  | [], _ :: _, h => h.elim
  | _ :: _, [], h => h.elim
theorem Grp.freezeAll : ∀ {qs : List Addr} {gs : List (List PyData)} {G : Hp}, HR T H0 G0 H G → qs.Nodup → Grp K H0 H G qs gs → ∃ G', HR T H0 G0 H G' ∧ Same G G' ∧ DpAll K G' (qs.map V.ref) (gs.map PyData.list) ∧ ∀ a, a ∉ qs → G' a = G a
  | [], [], G, h, _, _ => ⟨G, h, Same.refl _, .nil, fun _ _ => rfl⟩
  | q :: qs, g :: gs, G, h, nd, ⟨⟨vs, a, b⟩, c, d, hh⟩ => by
    obtain ⟨z, sm⟩ := h.freeze a d
    have nq : q ∉ qs := (List.nodup_cons.mp nd).1
    obtain ⟨G', h1, h2, h3, h4⟩ := Grp.freezeAll z (List.nodup_cons.mp nd).2 (hh.frz sm nq)
    refine ⟨G', h1, sm.trans h2, .cons (.lst (SqL.of (h2 q _ upd_same)) (b.up (sm.trans h2))) h3, fun x hx => ?_⟩
    rw [h4 x (fun z => hx (by simp [z])), upd_ne (fun z => hx (by simp [z]))]
  | [], _ :: _, _, _, _, h => h.elim
  | _ :: _, [], _, _, _, h => h.elim
end
/-- those that are told -/
def pickB {A : Type} : List A → List Bool → List A
  | q :: qs, true :: bs => q :: pickB qs bs
  | _ :: qs, false :: bs => pickB qs bs
  | _, _ => []
theorem pickB_snoc {A : Type} (q : A) (b : Bool) : ∀ (qs : List A) (bs : List Bool), qs.length = bs.length → pickB (qs ++ [q]) (bs ++ [b]) = pickB qs bs ++ (if b = true then [q] else [])
  | [], [], _ => by cases b <;> rfl
  | x :: qs, c :: bs, h => by
    have ih := pickB_snoc q b qs bs (by simpa using h)
    cases c
    · simpa [pickB] using ih
    · simpa [pickB] using ih
  | [], _ :: _, h => by simp at h
  | _ :: _, [], h => by simp at h
theorem pickB_len {A : Type} : ∀ (qs : List A) (bs : List Bool), (pickB qs bs).length ≤ qs.length
  | q :: qs, true :: bs => by simpa [pickB] using pickB_len qs bs
  | q :: qs, false :: bs => by simpa [pickB] using Nat.le_succ_of_le (pickB_len qs bs)
  | [], _ => by simp [pickB]
  | _ :: _, [] => by simp [pickB]
theorem pickB_mem {A : Type} {x : A} : ∀ {qs : List A} {bs : List Bool}, x ∈ pickB qs bs → x ∈ qs
  | q :: qs, true :: bs, h => by
    rcases List.mem_cons.mp (show x ∈ q :: pickB qs bs from h) with z | z
    · simp [z]
    · exact List.mem_cons_of_mem _ (pickB_mem z)
  | q :: qs, false :: bs, h => List.mem_cons_of_mem _ (pickB_mem (show x ∈ pickB qs bs from h))
  | [], _, h => by simp [pickB] at h
  | _ :: _, [], h => by simp [pickB] at h
/-- d goes to the first group that is told, or begins one -/
def putG (d : PyData) : List (List PyData) → List Bool → List (List PyData)
  | g :: gs, true :: _ => (g ++ [d]) :: gs
  | g :: gs, false :: bs => g :: putG d gs bs
  | gs, _ => gs ++ [[d]]
theorem putG_none {d : PyData} : ∀ {gs : List (List PyData)} {bs : List Bool}, gs.length = bs.length → pickB gs bs = [] → putG d gs bs = gs ++ [[d]]
  | [], [], _, _ => rfl
  | g :: gs, true :: bs, _, h => by simp [pickB] at h
  | g :: gs, false :: bs, l, h => by
    have := putG_none (d := d) (gs := gs) (bs := bs) (by simpa using l) h
    simp [putG, this]
  | [], _ :: _, l, _ => by simp at l
  | _ :: _, [], l, _ => by simp at l
theorem pickB_nil {A B : Type} : ∀ {qs : List A} {gs : List B} {bs : List Bool}, qs.length = gs.length → pickB qs bs = [] → pickB gs bs = []
  | [], [], _, _, _ => rfl
  | q :: qs, g :: gs, true :: bs, _, h => by simp [pickB] at h
  | q :: qs, g :: gs, false :: bs, l, h => by
    show pickB gs bs = []
    exact pickB_nil (qs := qs) (by simpa using l) h
  | q :: qs, g :: gs, [], _, _ => rfl
  | [], _ :: _, _, l, _ => by simp at l
  | _ :: _, [], _, l, _ => by simp at l
section
variable {K : PySem.W.Frag} {T : Tb} {H0 G0 H G H' G' G2 : Hp}
theorem Grp.put {v : V} {d : PyData} (hv : Dp K G v d) : ∀ {qs : List Addr} {gs : List (List PyData)} {bs : List Bool} {q : Addr} {rest : List Addr}, Grp K H0 H G qs gs → qs.Nodup → pickB qs bs = q :: rest → ∃ vs, H q = some (.lst vs) ∧ (∃ g ∈ gs, vs.length = g.length) ∧ NT H0 q ∧ G q = none ∧ Grp K H0 (upd H q (.lst (vs ++ [v]))) G qs (putG d gs bs)
  | [], [], _, _, _, _, _, h => by simp [pickB] at h
  | x :: qs, g :: gs, true :: bs, q, rest, ⟨⟨vs, a, b⟩, c, n, hh⟩, nd, h => by
    have e : x = q := by
      have := List.cons.inj (show x :: pickB qs bs = q :: rest from h)
      exact this.1
    subst e
    exact ⟨vs, a, ⟨g, by simp, b.len⟩, n, c, ⟨⟨_, upd_same, b.app (.cons hv .nil)⟩, c, n, hh.poke (List.nodup_cons.mp nd).1⟩⟩
  | x :: qs, g :: gs, false :: bs, q, rest, ⟨⟨vs, a, b⟩, c, n, hh⟩, nd, h => by
    have h' : pickB qs bs = q :: rest := h
    obtain ⟨ws, h1, ⟨g', h2, h3⟩, h4, h5, h6⟩ := Grp.put hv hh (List.nodup_cons.mp nd).2 h'
    have nq : x ≠ q := fun z => (List.nodup_cons.mp nd).1 (by rw [z]; exact pickB_mem (by rw [h']; simp))
    exact ⟨ws, h1, ⟨g', by simp [h2], h3⟩, h4, h5, ⟨⟨vs, by rw [upd_ne nq]; exact a, b⟩, c, n, h6⟩⟩
  | _ :: _, _ :: _, [], _, _, _, _, h => by simp [pickB] at h
  | [], _ :: _, _, _, _, h, _, _ => h.elim
  | _ :: _, [], _, _, _, h, _, _ => h.elim
end
/-- the tests of all groups -/
def dTests (tt : DT) (r : Ev) (g : Nat) : List (List PyData) → (List Bool → Prop) → Prop
  | [], Q => Q []
  | x :: gs, Q => tt (r.set g (.dat (.list x))) (fun b => dTests tt r g gs fun bs => Q (b :: bs)) (fun _ => False)
def dLk (tt : DT) (r : Ev) (s g : Nat) (Q : List (List PyData) → Prop) : List PyData → List (List PyData) → Prop
  | [], gs => Q gs
  | d :: ds, gs => (∃ n, d = .int n) ∧ gs.length < sizeLine ∧ (∀ x ∈ gs, x.length < sizeLine) ∧ dTests tt (r.set s (.dat d)) g gs fun bs => dLk tt r s g Q ds (putG d gs bs)
def noFour (r : Ev) (f s m g : Nat) : Ev := (((r.set f .no).set s .no).set m .no).set g .no
def dLike (ti : DA) (tt : DT) (f s m g : Nat) : DS := fun D r => (r[f]? = some (.own []) ∧ noObj (noFour r f s m g) = true ∧ s < r.length ∧ m < r.length ∧ g < r.length) ∧
  ti r (fun ds => dLk tt (noFour r f s m g) s g (fun gs => D.nx ((noFour r f s m g).set f (.dat (.list (gs.map .list))))) ds []) D.ex
theorem walk_refs {K : PySem.W.Frag} {p : Addr} {xs : List V} : Walk (Itl K p) xs.length (fun H => H p = some (.lst xs)) (YAt xs) :=
  ⟨fun i H hi q => ⟨xs, xs[i], SqL.of q, by simp [hi]⟩, fun H q => ⟨xs, SqL.of q, Nat.le_refl _⟩, fun i H x H' hi q y => ⟨y.1, y.2 xs (SqL.of q)⟩⟩
section
variable {X : Cx} {T : Tb} {E : XK} {pos : Pos}
theorem fs_like {f s m g : Nat} {tg iter : Expr} {st1 st2 : Stmt} {ti : DA} {tt : DT} (hfs : f ≠ s) (hfm : f ≠ m) (hfg : f ≠ g) (hsm : s ≠ m) (hsg : s ≠ g) (hmg : m ≠ g)
    (hp : PassesOwn (model X.prog X.w) X.A X.env X.xe) (hc : X.calm = true) (hi : FI X T E true tg iter ti) (hg : PG X tg (gName s))
    (h1 : PS X st1 (tAsg (tLc (iList X.K (tVar f)) (gName g) (lfT X.K T E tt) (tVar g) [g]) (gName m)))
    (h2 : PS X st2 (tIfS (tTest (tOp (rI0 fun i j => .bl (decide (j < i))) (tCB (fun xs H Q => ∃ p ys, xs = [.ref p] ∧ (SqL X.K H p ys ∨ SqT X.K H p ys) ∧ Q (.int ys.length) H) (tCons (tVar m) tNil)) (tC (.int 0))))
      (tDrop (tBM X.K "list" rAppend (tOp (rIx X.K) (tVar m) (tC (.int 0))) (tCons (tVar s) tNil))) (tDrop (tBM X.K "list" rAppend (tVar f) (tCons (tLst (tCons (tVar s) tNil)) tNil)))))
    (hs : ∀ x, foldedSetIterable iter X.env x = pure x := by intro _; rfl) : FS X T E (.For tg iter [st1, st2] [] pos) (dLike ti tt f s m g) := by
  refine FS.mk' (ps_for hp hc hi.pi hg (pss_cons h1 (pss_one h2)) hs) fun D sg H ⟨H0, G0, r, G, Dd, h, er, ⟨⟨hf0, hno, ls, lm, lg⟩, w⟩, k⟩ => ?_
  refine ⟨H0, G0, r, G, _, _, h, er, w, fun ds J P H1 G1 z wk _ pf q => ?_, k.xc h⟩
  obtain ⟨p, vs0, a, b, c, n, d0⟩ := er.own f [] hf0
  cases d0
  have lf : f < r.length := (List.getElem?_eq_some_iff.mp hf0).1
  have kk := k.up z.g0
  have hz1 := h.trans z
  have er0 : ER X.K H0 (noFour r f s m g) sg H1 G1 := ((((er.grow z).forget f).forget s).forget m).forget g
  have ln : (noFour r f s m g).length = r.length := by simp [noFour]
  have nf : (noFour r f s m g)[f]? = some .no := by
    unfold noFour
    rw [List.getElem?_set_ne (Ne.symm hfg), List.getElem?_set_ne (Ne.symm hfm), List.getElem?_set_ne (Ne.symm hfs), List.getElem?_set_self lf]
  have ns : (noFour r f s m g)[s]? = some .no := by
    unfold noFour
    rw [List.getElem?_set_ne (Ne.symm hsg), List.getElem?_set_ne (Ne.symm hsm), List.getElem?_set_self (by simpa using ls)]
  have nm : (noFour r f s m g)[m]? = some .no := by
    unfold noFour
    rw [List.getElem?_set_ne (Ne.symm hmg), List.getElem?_set_self (by simpa using lm)]
  have ng : (noFour r f s m g)[g]? = some .no := by
    unfold noFour
    rw [List.getElem?_set_self (by simpa using lg)]
  generalize hr0 : noFour r f s m g = r0 at *
  have wl : Walk J ds.length P (fun i H x H' => J.yld i H x H') := ⟨wk.goes, wk.stops, fun _ _ _ _ _ _ y => y⟩
  refine for_it wl (fun i sg' H' => ∃ qs gs, HR T H0 G0 H' G1 ∧ ER X.K H0 r0 sg' H' G1 ∧ sg'[f]? = some (some (.ref p)) ∧ H' p = some (.lst (qs.map V.ref)) ∧ (p :: qs).Nodup ∧ Grp X.K H0 H' G1 qs gs ∧ dLk tt r0 s g (fun gs => Dd.nx (r0.set f (.dat (.list (gs.map .list))))) (ds.drop i) gs)
    ⟨[], [], hz1, er0, a, z.ext p _ b (fun ps q => by cases q), by simp, trivial, q⟩ (fun i sg' H' hi ⟨qs, gs, a1, _⟩ => pf rfl H' a1.sub) (fun i x sg1 Hh H' hi ⟨qs, gs, a1, a2, a3, a4, a5, a6, a7⟩ y => ?_) fun sg' H' ⟨qs, gs, a1, a2, a3, a4, a5, a6, a7⟩ => ?_
  · obtain ⟨G2, dd, e1, e2, e3⟩ := wk.yields i Hh G1 x H' hi (pf rfl Hh a1.sub) a1.refl (Same.refl _) y
    rw [drop_at e1] at a7
    obtain ⟨⟨nn, rfl⟩, hz, hzs, hts⟩ := a7
    cases e3
    have b1 : HR T H0 G0 H' G1 := a1.back (Same.refl _) e2
    have b4 : H' p = some (.lst (qs.map V.ref)) := e2.ext p _ a4 fun ps q => by cases q
    have b6 := a6.ext e2.ext
    have l1 : sg1.length = r.length := by rw [← a2.len, ln]
    have pq : p ∉ qs := (List.nodup_cons.mp a5).1
    have nq : qs.Nodup := (List.nodup_cons.mp a5).2
    have lqg := a6.len
    have gp1 : G1 p = none := z.noNew b c
    show tAsg (tLc (iList X.K (tVar f)) (gName g) (lfT X.K T E tt) (tVar g) [g]) (gName m) _ (sg1.set s (some (.int nn))) H'
    have c2 : ER X.K H0 r0 (sg1.set s (some (.int nn))) H' G1 := (a2.plain hno (Same.refl _)).slot hno ns
    have c2d : ER X.K H0 (r0.set s (.dat (.int nn))) (sg1.set s (some (.int nn))) H' G1 := (a2.plain hno (Same.refl _)).set s (.int nn)
    have nod : noObj (r0.set s (.dat (.int nn))) = true := noObj_of fun j o zz => by
      rcases getSet zz with ⟨_, q⟩ | ⟨_, q⟩
      · cases q
      · exact noObj_at hno q
    have ngd : (r0.set s (.dat (.int nn)))[g]? = some .no := by rw [List.getElem?_set_ne hsg]; exact ng
    have s3 : (sg1.set s (some (.int nn)))[f]? = some (some (.ref p)) := by rw [List.getElem?_set_ne (Ne.symm hfs)]; exact a3
    have ss : (sg1.set s (some (.int nn)))[s]? = some (some (.int nn)) := List.getElem?_set_self (by omega)
    have l2 : (sg1.set s (some (.int nn))).length = r.length := by simpa using l1
    generalize sg1.set s (some (.int nn)) = sg2 at *
    refine ⟨.ref p, s3, p, rfl, ⟨_, SqL.of b4⟩, fun Dn hDn => ?_⟩
    have nDn : NT H0 Dn := (NT.none hDn).back b1.ext
    have gDn : G1 Dn = none := by
      cases qq : G1 Dn with
      | none => rfl
      | some u => rw [b1.sub Dn u qq] at hDn; cases hDn
    have pDn : p ≠ Dn := ne_of_none b4 hDn
    refine lc_it (walk_refs (p := p) (xs := qs.map V.ref)) (fun j Hc => ∃ bs, bs.length = j ∧ HR T H0 G0 Hc G1 ∧ ExtN H' Hc ∧ Hc Dn = some (.lst ((pickB (qs.take j) bs).map V.ref)) ∧ dTests tt (r0.set s (.dat (.int nn))) g (gs.drop j) fun bs' => dLk tt r0 s g (fun gs => Dd.nx (r0.set f (.dat (.list (gs.map .list))))) (ds.drop (i + 1)) (putG (.int nn) gs (bs ++ bs')))
      ⟨[], rfl, b1.trans (b1.laidO hDn), ExtN.of fun b' u q => by rw [upd_ne (ne_of_none q hDn)]; exact q, by simp [upd_same, pickB], hts⟩ (fun j Hc _ ⟨bs, _, _, e, _⟩ => e p _ b4 fun ps q => by cases q) (fun j x Hc Hc' hj ⟨bs, f1, f2, f3, f4, f5⟩ y => ?_) fun Hc ⟨bs, f1, f2, f3, f4, f5⟩ => ?_
    · obtain ⟨rfl, hx⟩ := y
      rw [List.length_map] at hj
      obtain ⟨qj, hqj, rfl⟩ : ∃ qj, qs[j]? = some qj ∧ V.ref qj = x := by
        rw [List.getElem?_map] at hx
        cases hq : qs[j]? with
        | none => rw [hq] at hx; cases hx
        | some qj => rw [hq] at hx; exact ⟨qj, rfl, Option.some.inj hx⟩
      obtain ⟨gj, vs, g1, g2, g3, g4, g5⟩ := (b6.ext f3).at hqj
      rw [drop_at g1] at f5
      obtain ⟨zf, sm⟩ := f2.freeze g2 g5
      show L2.wipe ((L2.wipe sg2 [g]).set g (some (.ref qj))) [g] = L2.wipe sg2 [g] ∧ lfT X.K T E tt ((L2.wipe sg2 [g]).set g (some (.ref qj))) Hc' _
      have ew : L2.wipe sg2 [g] = sg2.set g none := rfl
      have ew2 : L2.wipe ((L2.wipe sg2 [g]).set g (some (.ref qj))) [g] = ((sg2.set g none).set g (some (.ref qj))).set g none := rfl
      refine ⟨by rw [ew2, ew]; simp [List.set_set], ?_⟩
      rw [ew]
      refine ⟨H0, G0, (r0.set s (.dat (.int nn))).set g (.dat (.list gj)), upd G1 qj (.lst vs), _, _, zf, ((c2d.plain nod sm).slot nod ngd).set g (.lst (SqL.of upd_same) (g3.up sm)), f5, fun bb H3 G3 z3 w3 => ?_, fun _ _ _ _ q => q.elim⟩
      have k1 : HR T H0 G0 H3 G1 := f2.back sm z3
      have k3 : ExtN H' H3 := f3.trans z3.ext
      have k4 : H3 Dn = some (.lst ((pickB (qs.take j) bs).map V.ref)) := z3.ext Dn _ f4 fun ps q => by cases q
      have tk : qs.take (j + 1) = qs.take j ++ [qj] := by
        rw [List.take_succ, hqj]
        rfl
      have pk := pickB_snoc qj bb (qs.take j) bs (by rw [List.length_take, f1]; omega)
      cases bb with
      | true =>
        refine iteT ?_
        refine ⟨.ref qj, List.getElem?_set_self (by simp; omega), _, k4, ?_, bs ++ [true], by simp [f1], k1.poke nDn k4 gDn, fun b' o e1' e2' => ?_, ?_, ?_⟩
        · have := pickB_len (qs.take j) bs
          rw [List.length_take] at this
          rw [List.length_map]
          omega
        · rw [upd_ne (fun zz => by subst zz; rw [hDn] at e1'; cases e1')]
          exact k3 b' o e1' e2'
        · rw [upd_same, tk, pk]
          simp
        · rw [show (fun bs' => dLk tt r0 s g (fun gs => Dd.nx (r0.set f (.dat (.list (gs.map .list))))) (ds.drop (i + 1)) (putG (.int nn) gs (bs ++ [true] ++ bs'))) = fun bs' => dLk tt r0 s g (fun gs => Dd.nx (r0.set f (.dat (.list (gs.map .list))))) (ds.drop (i + 1)) (putG (.int nn) gs (bs ++ (true :: bs'))) from by funext bs'; simp]
          exact w3
      | false =>
        refine iteF ?_
        refine ⟨bs ++ [false], by simp [f1], k1, k3, ?_, ?_⟩
        · rw [tk, pk]
          simpa using k4
        · rw [show (fun bs' => dLk tt r0 s g (fun gs => Dd.nx (r0.set f (.dat (.list (gs.map .list))))) (ds.drop (i + 1)) (putG (.int nn) gs (bs ++ [false] ++ bs'))) = fun bs' => dLk tt r0 s g (fun gs => Dd.nx (r0.set f (.dat (.list (gs.map .list))))) (ds.drop (i + 1)) (putG (.int nn) gs (bs ++ (false :: bs'))) from by funext bs'; simp]
          exact w3
    · rw [List.length_map] at f1 f4 f5
      rw [List.take_length] at f4
      rw [lqg, List.drop_length] at f5
      have f5' : dLk tt r0 s g (fun gs => Dd.nx (r0.set f (.dat (.list (gs.map .list))))) (ds.drop (i + 1)) (putG (.int nn) gs bs) := by
        have := f5
        simp only [dTests, List.append_nil] at this
        exact this
      have b6c := b6.ext f3
      have hpc : Hc p = some (.lst (qs.map V.ref)) := f3 p _ b4 fun ps q => by cases q
      have erc : ER X.K H0 r0 (sg2.set m (some (.ref Dn))) Hc G1 := (c2.plain hno (Same.refl _)).slot hno nm
      have sm' : (sg2.set m (some (.ref Dn)))[m]? = some (some (.ref Dn)) := List.getElem?_set_self (by omega)
      have sf' : (sg2.set m (some (.ref Dn)))[f]? = some (some (.ref p)) := by rw [List.getElem?_set_ne (Ne.symm hfm)]; exact s3
      have ss' : (sg2.set m (some (.ref Dn)))[s]? = some (some (.int nn)) := by rw [List.getElem?_set_ne (Ne.symm hsm)]; exact ss
      unfold gName
      generalize sg2.set m (some (.ref Dn)) = sg3 at *
      refine ⟨.ref Dn, sm', Dn, _, rfl, .inl (SqL.of f4), _, 0, rfl, rfl, _, rfl, ?_⟩
      cases hpk : pickB qs bs with
      | nil =>
        refine iteF ?_
        have hpg : pickB gs bs = [] := pickB_nil lqg hpk
        refine ⟨.ref p, sf', .inl ⟨rfl, _, SqL.of hpc⟩, .int nn, ss', by show 1 ≤ sizeLine; decide, fun l hl => ?_⟩
        have pl : p ≠ l := ne_of_none hpc hl
        have gl : G1 l = none := by
          cases qq : G1 l with
          | none => rfl
          | some u => rw [f2.sub l u qq] at hl; cases hl
        have lq : l ∉ qs := fun hq => by
          obtain ⟨j, hj⟩ := List.getElem?_of_mem hq
          obtain ⟨_, vs, _, g2, _⟩ := b6c.at hj
          rw [hl] at g2
          cases g2
        have nl : NT H0 l := (NT.none hl).back f2.ext
        have m1 : HR T H0 G0 (upd Hc l (.lst [.int nn])) G1 := f2.trans (f2.laidO hl)
        have hpc' : (upd Hc l (.lst [.int nn])) p = some (.lst (qs.map V.ref)) := by rw [upd_ne pl]; exact hpc
        refine ⟨p, _, .ref l, rfl, rfl, hpc', by rw [List.length_map]; omega, qs ++ [l], gs ++ [[.int nn]], m1.poke n hpc' gp1, erc.plain hno (Same.refl _), sf', ?_, ?_, ?_, ?_⟩
        · rw [upd_same]
          simp
        · rw [← List.cons_append]
          refine List.nodup_append.mpr ⟨a5, by simp, fun x hx y hy => ?_⟩
          simp only [List.mem_singleton] at hy
          subst hy
          rcases List.mem_cons.mp hx with zz | zz
          · rw [zz]; exact pl
          · intro zz2; subst zz2; exact lq zz
        · refine Grp.snoc ⟨⟨[.int nn], by rw [upd_ne (Ne.symm pl)]; exact upd_same, .cons (.int nn) .nil⟩, gl, nl⟩ ?_
          exact (b6c.poke lq).poke pq
        · rw [putG_none (by rw [f1, lqg]) hpg] at f5'
          exact f5'
      | cons q0 rest =>
        rw [hpk] at f4
        refine ite2 (fun _ => ?_) (fun hh => absurd (by simp) hh)
        obtain ⟨vs, g1, ⟨gg, g2, g3⟩, g4, g5, g6⟩ := b6c.put (v := .int nn) (d := .int nn) (.int nn) nq hpk
        refine ⟨.ref Dn, sm', .inl ⟨Dn, _, 0, .ref q0, rfl, rfl, SqL.of f4, atI_nat (i := 0) rfl, .inl ⟨rfl, _, SqL.of g1⟩, .int nn, ss', q0, vs, .int nn, rfl, rfl, g1, by rw [g3]; exact hzs gg g2, qs, putG (.int nn) gs bs, f2.poke g4 g1 g5, erc.plain hno (Same.refl _), sf', ?_, a5, g6, f5'⟩⟩
        have pq0 : p ≠ q0 := fun zz => pq (by rw [zz]; exact pickB_mem (by rw [hpk]; simp))
        rw [upd_ne pq0]
        exact hpc
  · rw [List.drop_length] at a7
    have a7' : Dd.nx (r0.set f (.dat (.list (gs.map .list)))) := a7
    have pq : p ∉ qs := (List.nodup_cons.mp a5).1
    obtain ⟨Gf, y1, y2, y3, y4⟩ := a6.freezeAll a1 (List.nodup_cons.mp a5).2
    obtain ⟨y5, y6⟩ := y1.freeze a4 n
    have er1 : ER X.K H0 r0 sg' H' (upd Gf p (.lst (qs.map V.ref))) := a2.plain hno (y2.trans y6)
    refine kk.nx _ _ _ _ y5 (y2.trans y6) ?_ a7'
    have es := er1.set f (v := .ref p) (d := .list (gs.map .list)) (.lst (SqL.of upd_same) (y3.up y6))
    have e0 : sg'.set f (some (.ref p)) = sg' := by
      apply List.ext_getElem?
      intro j
      by_cases hj : f = j
      · subst hj
        rw [List.getElem?_set_self (by rw [← a2.len, ln]; exact lf), a3]
      · rw [List.getElem?_set_ne hj]
    rw [e0] at es
    exact es
end
end Fd
end
section
set_option Elab.async false
set_option linter.all false
set_option maxRecDepth 100000
set_option autoImplicit false
set_option maxHeartbeats 2000000
/-! FdM: targets that store into a list of one's own; xs.pop(i). -/
namespace Fd
open PySem PySem.Spec PyProof.Rows L2 LamX
section
variable (K : PySem.W.Frag) (T : Tb)
def lfX (g : DG) : TG := fun v sg H Q => ∃ H0 G0 r G d Qd, HR T H0 G0 H G ∧ ER K H0 r sg H G ∧ Dp K G v d ∧ g d r Qd ∧
  ∀ r' sg' H' G', HR T H0 G0 H' G' → Same G G' → ER K H0 r' sg' H' G' → Qd r' → Q sg' H'
def lfXs (g : DGs) : TGs := fun vs sg H Q => ∃ H0 G0 r G ds Qd, HR T H0 G0 H G ∧ ER K H0 r sg H G ∧ DpAll K G vs ds ∧ g ds r Qd ∧
  ∀ r' sg' H' G', HR T H0 G0 H' G' → Same G G' → ER K H0 r' sg' H' G' → Qd r' → Q sg' H'
end
section
variable (X : Cx) (T : Tb)
structure FX (tg : Expr) (g : DG) : Prop where
  pg : PG X tg (lfX X.K T g)
structure FXs (tg : List Expr) (g : DGs) : Prop where
  pgs : PGs X tg (lfXs X.K T g)
end
section
variable {X : Cx} {T : Tb} {E : XK} {e : Expr} {pos : Pos} {te : DE}
theorem FX.mk' {tg : Expr} {t : DG} {g : TG} (h : PG X tg g) (q : ∀ v sg H Q, lfX X.K T t v sg H Q → g v sg H Q) : FX X T tg t := ⟨⟨fun pins s sg H v u Q I r w => h.run pins s sg H v u Q I r (q v sg H Q w)⟩⟩
theorem FXs.mk' {tg : List Expr} {t : DGs} {g : TGs} (h : PGs X tg g) (q : ∀ v sg H Q, lfXs X.K T t v sg H Q → g v sg H Q) : FXs X T tg t := ⟨⟨fun pins s sg H v u Q I r w => h.run pins s sg H v u Q I r (q v sg H Q w)⟩⟩
theorem fx_of {is : List Nat} {tg : Expr} {g : DG} (h : FG X T is tg g) : FX X T tg g :=
  FX.mk' h.pg fun v sg H Q ⟨H0, G0, r, G, d, Qd, h, er, p, w, k⟩ => ⟨H0, G0, r, G, d, Qd, h, er, p, w, fun r' sg' H' G' z er' _ _ q => k r' sg' H' G' (h.trans z) z.g0 er' q⟩
/-- xs[e] = .., xs in slot i, one's own -/
@[simp] def dgSub (i : Nat) (t : DE) : DG := fun d r Q => ∃ ds, r[i]? = some (.own ds) ∧ t r (fun x => ∃ n j, x = .int n ∧ ixN ds.length n = some j ∧ Q (r.set i (.own (ds.set j d)))) (fun _ => False)
theorem fx_sub (i : Nat) {x : Str} {p1 : Pos} (he : FE X T E e te) (hN : X.N[i]? = some x := by rfl) (hv : Vis X.env.scope x := by first | exact Or.inl rfl | exact Or.inr (Or.inl rfl) | exact Or.inr (Or.inr rfl)) (hd : (x == ("__debug__" : Str)) = false := by decide)
    (hcd : (x == ("__classdict__" : Str)) = false := by decide)
    (ha : ∀ v, assign (.Subscript (.Name x p1) e pos) X.env v = (do
      let ov ← holding [v] (eval (.Name x p1) X.env)
      let iv ← holding [v, ov] (eval e X.env)
      standAt pos
      holding [v, ov, iv] (setItem ov iv v)
      release [v, ov, iv] []) := by intro _; rfl) : FX X T (.Subscript (.Name x p1) e pos) (dgSub i te) := by
  refine FX.mk' (pg_sub (pe_var hN hv hd hcd) he.pe set_list ha) fun v sg H Q ⟨H0, G0, r, G, d, Qd, h, er, p, ⟨ds, hr, w⟩, k⟩ => ?_
  obtain ⟨q, vs, a, b, c, n, da⟩ := er.own i ds hr
  refine ⟨.ref q, a, H0, G0, r, G, _, _, h, er, w, fun d1 v1 H1 G1 h1 p1 ⟨m, j, e1, e2, w2⟩ => ?_, fun _ _ _ _ z => z.elim⟩
  subst e1
  cases p1
  have b1 : H1 q = some (.lst vs) := h1.ext q _ b fun ps z => by cases z
  have c1 := h1.noNew b c
  exact ⟨q, vs, m, j, rfl, rfl, b1, by rw [da.len]; exact e2, k _ _ _ G1 ((h.trans h1).poke n b1 c1) h1.g0 ((er.grow h1).pokeO hr a c1 n ((da.up h1.g0).set (p.up h1.g0) j)) w2⟩
theorem fxs_nil : FXs X T [] dgNil := by
  refine FXs.mk' pgs_nil fun v sg H Q ⟨H0, G0, r, G, ds, Qd, h, er, p, ⟨e, w⟩, k⟩ => ?_
  subst e
  cases p
  exact ⟨rfl, k _ _ H G h (Same.refl _) er w⟩
theorem fxs_cons {es : List Expr} {g : DG} {gs : DGs} (h1 : FX X T e g) (h2 : FXs X T es gs) (hs : (assignEach (e :: es) X.env).map (·.2) = assign e X.env :: (assignEach es X.env).map (·.2) := by rfl) : FXs X T (e :: es) (dgCons g gs) := by
  refine FXs.mk' (pgs_cons h1.pg h2.pgs hs) fun vs sg H Q ⟨H0, G0, r, G, ds, Qd, h, er, p, ⟨d, rest, e, w⟩, k⟩ => ?_
  subst e
  cases p with
  | cons pa pr =>
    refine ⟨_, _, rfl, H0, G0, r, G, d, _, h, er, pa, w, fun r' sg' H' G' z sm er' w1 => ?_⟩
    exact ⟨H0, G0, r', G', rest, Qd, z, er', pr.up sm, w1, fun r2 sg2 H2 G2 z2 sm2 er2 w2 => k r2 sg2 H2 G2 z2 (sm.trans sm2) er2 w2⟩
theorem fx_tup {es : List Expr} {k : Nat} {gs : DGs} {n : Nat} (hc : X.calm = true) (hg : FXs X T es gs) (hn : (assignEach es X.env).length = n := by rfl) (hst : (assignEach es X.env).findIdx? (·.1) = none := by rfl) : FX X T (.Tuple es k pos) (dgTup n gs) := by
  refine FX.mk' (pg_tup hc hg.pgs hn hst) fun v sg H Q ⟨H0, G0, r, G, d, Qd, h, er, p, ⟨ds, e, l, w⟩, k⟩ => ?_
  subst e
  cases p with
  | tup hs ha => exact ⟨_, _, rfl, sqT_mono h.sub hs, ha.len.trans l, H0, G0, r, G, ds, Qd, h, er, ha, w, k⟩
theorem fs_asgX {tg : Expr} {g : DG} (he : FE X T E e te) (hg : FX X T tg g) (hs : swapsWithSole [tg] e pos.line X.env = pure false := by rfl) (hw : swappedStores [tg] e X.env = pure none := by rfl)
    (h1 : (assignEach [tg] X.env).map (·.2) = [assign tg X.env] := by rfl) : FS X T E (.Assign [tg] e pos) (dAsg te g) := by
  refine FS.mk' (ps_asg he.pe hg.pg hs hw h1) fun D sg H ⟨H0, G0, r, G, Dd, h, er, w, k⟩ => ?_
  refine ⟨H0, G0, r, G, _, _, h, er, w, fun d v H' G' z p q => ?_, k.xc h⟩
  exact ⟨H0, G0, r, G', d, _, h.trans z, er.grow z, p, q, fun r' sg' H2 G2 z2 sm er2 w2 => k.nx r' sg' H2 G2 z2 (z.g0.trans sm) er2 w2⟩
/-- target = xs.pop(0), xs in slot i, one's own -/
@[simp] def dPop0 (i : Nat) (g : DG) : DS := fun D r => ∃ d ds, r[i]? = some (.own (d :: ds)) ∧ g d (r.set i (.own ds)) D.nx
theorem fs_pop0 (i : Nat) {tg : Expr} {g : DG} {x : Str} {p1 apos cpos kpos : Pos} {kk : Nat} (hg : FX X T tg g) (hN : X.N[i]? = some x := by rfl) (hv : Vis X.env.scope x := by first | exact Or.inl rfl | exact Or.inr (Or.inl rfl) | exact Or.inr (Or.inr rfl)) (hd : (x == ("__debug__" : Str)) = false := by decide)
    (hcd : (x == ("__classdict__" : Str)) = false := by decide) (hbase : attributeBase (.Name x p1) "pop" X.env (eval (.Name x p1) X.env) = eval (.Name x p1) X.env := by rfl)
    (hfew : ((backTo cpos (starEach [.Constant (.int 0) kk kpos] X.env)).all (fun x => !x.1) && (backToKw cpos (keywordEach [] X.env)).all (fun x => x.1.isSome) && decide ([Expr.Constant (.int 0) kk kpos].length + ([] : List Keyword).length + (if ([] : List Keyword).isEmpty then 0 else 1) < 30)) = true := by rfl)
    (hline : (apos.endLine == cpos.line) = true := by rfl) (hs : starEach [.Constant (.int 0) kk kpos] X.env = (false, eval (.Constant (.int 0) kk kpos) X.env) :: starEach [] X.env := by rfl) (hplain : (backTo cpos (starEach [] X.env)).any (·.1) = false := by rfl)
    (hs1 : swapsWithSole [tg] (.Call (.Attribute (.Name x p1) "pop" apos) [.Constant (.int 0) kk kpos] [] cpos) pos.line X.env = pure false := by rfl) (hw : swappedStores [tg] (.Call (.Attribute (.Name x p1) "pop" apos) [.Constant (.int 0) kk kpos] [] cpos) X.env = pure none := by rfl)
    (h1 : (assignEach [tg] X.env).map (·.2) = [assign tg X.env] := by rfl) :
    FS X T E (.Assign [tg] (.Call (.Attribute (.Name x p1) "pop" apos) [.Constant (.int 0) kk kpos] [] cpos) pos) (dPop0 i g) := by
  refine FS.mk' (ps_asg (pe_bm PySem.F.plainAttrs_list PySem.F.slot_list_pop PySem.F.type_list_pop mt_popAt (pe_var hN hv hd hcd) (pa_cons pe_int pa_nil hs) hbase hfew hline hs hplain) hg.pg hs1 hw h1) fun D sg H ⟨H0, G0, r, G, Dd, h, er, ⟨d, ds, hr, w⟩, k⟩ => ?_
  obtain ⟨q, vs, a, b, c, n, da⟩ := er.own i (d :: ds) hr
  cases da with
  | cons p1 p2 =>
    refine ⟨.ref q, a, .inl ⟨rfl, _, SqL.of b⟩, q, _, 0, 0, _, rfl, rfl, b, by decide, by decide, ?_, rfl, ?_⟩
    · simp [seqIndex?]
    · exact ⟨H0, G0, r.set i (.own ds), G, d, _, h.poke n b c, er.pokeO hr a c n p2, p1, w, fun r' sg' H2 G2 z2 sm er2 w2 => k.nx r' sg' H2 G2 z2 sm er2 w2⟩
/-- x or y by truth -/
@[simp] def dOrT (ta tb : DE) : DE := fun r Q E => ta r (fun d => dTru d (fun b => if b = true then Q d else tb r Q E) E) E
theorem fe_orT {a b : Expr} {rest : List Expr} {ta tb : DE} (ha : FE X T E a ta) (hb : FE X T E (.BoolOp .Or (b :: rest) pos) tb) : FE X T E (.BoolOp .Or (a :: b :: rest) pos) (dOrT ta tb) := by
  refine FE.mk' (pe_orT ha.pe hb.pe) fun sg H Q ⟨H0, G0, r, G, Qd, Ed, h, er, w, k, x⟩ => ?_
  refine ⟨H0, G0, r, G, _, Ed, h, er, w, fun d v H' G' z p q => ?_, x⟩
  obtain ⟨c, c1, c2⟩ := tru_of p z.sub q
  refine ⟨c, c1, ?_⟩
  cases c with
  | true => exact iteT (k d v H' G' z p (by rw [if_pos rfl] at c2; exact c2))
  | false => exact iteF ⟨H0, G0, r, G', Qd, Ed, h.trans z, er.grow z, by rw [if_neg Bool.false_ne_true] at c2; exact c2, fun d v H2 G2 z2 => k d v H2 G2 (z.trans z2), x.up z⟩
end
end Fd
end
section
set_option Elab.async false
set_option linter.all false
set_option maxRecDepth 100000
set_option autoImplicit false
set_option maxHeartbeats 2000000
/-! FdN: {k: v}, k a tuple. -/
namespace Fd
open PySem PySem.Spec PyProof.Rows L2 LamX
section
variable {X : Cx} {T : Tb} {E : XK} {pos : Pos}
theorem room8 (hu : X.A.units + 65 < cLine) : (nestedKind X.prog X.w).room X.A := by
  show X.A.units + 8 < cLine
  omega
def tDisp1N (K : PySem.W.Frag) (tk tv : TE) : TE := fun σ H Q => ∀ p, H p = none → tk σ (upd H p (DcO p [])) fun x H1 => tv σ H1 fun y H2 => H2 p = some (DcO p []) ∧ ∃ a kk, x = .ref a ∧ Dp K H2 (.ref a) kk.data ∧ goodK kk = true ∧
  ∀ u, RelV y u → Q (.ref p) (upd H2 p (DcO p [(kk, a, u)]))
theorem pe_disp1N {k v : Expr} {tk tv : TE} (hu : X.A.units + 65 < cLine) (hk : PE X k tk) (hv : PE X v tv) : PE X (.Dict [some k] [v] pos) (tDisp1N X.K tk tv) := by
  refine ⟨fun pins s σ H Q I q => ?_⟩
  have hn := I.hok.fresh (Nat.le_refl s.heap.objs.size)
  have I1 := I.laid (a := s.heap.objs.size) (o := DcO s.heap.objs.size []) (h' := s.heap.push { cls := .type "dict", data := .dict #[] }) (t' := s.toks) (fun _ _ q => Heap.get?_push_of_some _ q) (Nat.le_refl _) (dco_ok (P := X.prog) (w := X.w) (beq_eq_false_iff_ne.mpr (Ne.symm (Nat.ne_of_lt I.big))) (fun x hx => nomatch hx) (Heap.DictOfH.new s.heap))
  have hP : PPs X pos [some k] [v] [(tk, tv)] := pps_cons hk hv pps_nil
  rw [arm_eval_Dict, zip_pairTrees [some k] [v] X.env pos rfl rfl, dictDisplay_pairs _ (by simp [pairTrees]) (by simp [pairTrees])]
  have q1 := q _ hn
  refine wpAny_bind (wpAny_standAt (wpAny_bind (wpAny_subDictH (knd := nestedKind X.prog X.w) (room8 hu) (by simp [pairTrees]) (thn (hP.run pins _ σ _ (fun ps H2 => match ps with
    | [(x, y)] => H2 s.heap.objs.size = some (DcO s.heap.objs.size []) ∧ ∃ a kk, x = .ref a ∧ Dp X.K H2 (.ref a) kk.data ∧ goodK kk = true ∧ ∀ u, RelV y u → Q (.ref s.heap.objs.size) (upd H2 s.heap.objs.size (DcO s.heap.objs.size [(kk, a, u)]))
    | _ => False) I1 q1) fun ws s2 ⟨ps, H2, I2, rel, hq⟩ => ?_))))
  match ps, ws, rel, hq with
  | [(x, y)], [(x', y')], rel, ⟨hp, a, kk, ex, dk, g, q2⟩ =>
    subst ex
    cases rel with
    | cons h1 _ =>
      obtain ⟨r1, r2⟩ := h1
      cases r1
      obtain ⟨hd, dd⟩ := dict_of I2 hp ⟨(fun x hx => nomatch hx), List.Pairwise.nil⟩
      refine ⟨[(kk, a, y')], ⟨rfl, rfl, key_is I2 dk g, trivial⟩, dd, fun h' tk dd' hs' => wpAny_pure ⟨.ref s.heap.objs.size, _, ?_, rfl, q2 y' r2⟩⟩
      obtain ⟨q0, _, _, hq0, _⟩ := id dd'
      have := d_write (t' := tk) I2 (by rw [hp]; exact True.intro) hs' ⟨q0, hq0⟩ (dco_ok hd (good_stored (xs := []) (k := kk) (a := a) (u := y') (fun x hx => nomatch hx) g) dd')
      exact this
  | [(x, y)], [], rel, _ => cases rel
  | [(x, y)], _ :: _ :: _, rel, _ => cases rel with | cons _ t => cases t
/-- a dict of one entry -/
@[simp] def dDisp1 (ta tb : DE) : DM := fun r Q E => ta r (fun d => tb r (fun v => ∃ k, keyD d = some k ∧ Q (.dN [(k, v)])) E) E
theorem fm_disp1 {k v : Expr} {ta tb : DE} (hu : X.A.units + 65 < cLine) (ha : FE X T E k ta) (hb : FE X T E v tb) : FM X T E (.Dict [some k] [v] pos) (dDisp1 ta tb) := by
  refine FM.mk' (pe_disp1N hu ha.pe hb.pe) fun sg H Q ⟨H0, G0, r, G, Qd, Ed, h, er, w, kk, x⟩ p hp => ?_
  have z0 := h.laidO (o := DcO p []) hp
  have gp := G_none h hp
  have ntb : ∀ ps, DcO p [] ≠ .tbl ps := fun ps z => by cases z
  refine ⟨H0, G0, r, G, _, _, h.trans z0, er.grow z0, w, fun d1 v1 H1 G1 h1 p1 w1 => ?_, x.up z0⟩
  refine ⟨H0, G0, r, G1, _, _, (h.trans z0).trans h1, (er.grow z0).grow h1, w1, fun d2 v2 H2 G2 h2 p2 ⟨k', hk, q⟩ => ?_, (x.up z0).up h1⟩
  have hp2 : H2 p = some (DcO p []) := (h1.trans h2).ext p _ upd_same ntb
  have gp2 : G2 p = none := (h1.trans h2).noNewO upd_same ntb gp
  obtain ⟨a, rfl, hka, g⟩ := dp_key (p1.up h2.g0) hk
  refine ⟨hp2, a, k', rfl, hka.up h2.sub, g, fun u ru => ?_⟩
  have hz := z0.trans (h1.trans h2)
  refine kk (.dN [(k', d2)]) p _ _ G2 (hz.pokeX (NT.none hp) hp2 ntb (fun c q' hc z => dco_code hc z) gp2) (NT.none hp) upd_same gp2 ⟨_, rfl, .cons ⟨rfl, hka, v2, ru, p2⟩ .nil, by simp, by rw [sizeLine_eq]; simp, fun x hx => by simp at hx; rw [hx]; exact g⟩ q
end
/-! ### a tuple so many times -/
section
variable {X : Cx} {K : PySem.W.Frag} {T : Tb}
def rMulT (K : PySem.W.Frag) : R2 := fun x y H Q => (rI CM fun i j => .int (i * j)) x y H Q ∨ rRepT K x y H Q
theorem op_mulT : OpR X (binaryOp .Mult) (rMulT X.K) := opOr op_mulA op_repT
def dMulT : PyData → PyData → M PyData
  | .int i, .int j, Q, _ => CM i j ∧ Q (.int (i * j))
  | .tuple ds, .int k, Q, _ => ds ≠ [] ∧ 2 ≤ k ∧ k ≤ 1000 ∧ ds.length ≤ 1000 ∧ Q (.tuple (List.replicate k.toNat ds).flatten)
  | _, _, _, _ => False
@[simp] theorem dMulT_1 {i j : Int} {Q : PyData → Prop} {E : Value → Prop} : dMulT (.int i) (.int j) Q E = (CM i j ∧ Q (.int (i * j))) := rfl
@[simp] theorem dMulT_2 {ds : List PyData} {k : Int} {Q : PyData → Prop} {E : Value → Prop} : dMulT (.tuple ds) (.int k) Q E = (ds ≠ [] ∧ 2 ≤ k ∧ k ≤ 1000 ∧ ds.length ≤ 1000 ∧ Q (.tuple (List.replicate k.toNat ds).flatten)) := rfl
theorem od_mulT : OpD K T (rMulT K) dMulT := by
  intro x y d1 d2 H G Qd Ed Q h p1 p2 w k
  cases p1 with
  | int i => cases p2 with
    | int j => exact .inl ⟨i, j, rfl, rfl, w.1, k _ _ H G h (.int _) w.2⟩
    | _ => exact w.elim
  | tup hs ha => cases p2 with
    | int j =>
      obtain ⟨w1, w2, w3, w4, w5⟩ := w
      have hl := ha.len
      refine .inr ⟨_, j, _, rfl, rfl, sqT_mono h.sub hs, fun e => ?_, w2, w3, by omega, fun p hp => ?_⟩
      · subst e
        cases ha
        exact w1 rfl
      · exact k _ _ _ _ (h.laidT hp) (.tup (SqT.of upd_same) ((rep_of ha j.toNat).up (h.laidT hp).g0)) w5
    | _ => exact w.elim
  | _ => exact w.elim
end
/-! ### len(set(a list of ints)) -/
section
variable {X : Cx} {T : Tb} {E : XK} {pos : Pos}
def tLenSetA (K : PySem.W.Frag) (ta : TE) : TE := fun σ H Q => ta σ H fun x H1 => ∃ (l : Addr) (ns : List Int), x = .ref l ∧ SqL K H1 l (ns.map V.int) ∧ ns.length < 4000 ∧ ∀ ks : List Int, ks.Nodup → (∀ k, k ∈ ks ↔ k ∈ ns) → Q (.int (ks.length : Nat)) H1
theorem pe_lenSetA {a : Expr} {ta : TE} {p p2 q : Pos} (hc : X.calm = true) (hg : Gl X "len") (hm : X.mg "len" = none) (hg2 : Gl X "set") (hm2 : X.mg "set" = none) (ha : PE X a ta)
    (na : starEach [a] X.env = (false, eval a X.env) :: starEach [] X.env := by rfl) : PE X (.Call (.Name "len" p) [.Call (.Name "set" p2) [a] [] q] [] pos) (tLenSetA X.K ta) := by
  refine ⟨fun pins s σ H Q I h => ?_⟩
  refine Call_ (ld_blt I hg hm boot_len ?_)
  refine PyProof.Rows.callWith_builtin1 (PyProof.Rows.args_cons ?_ rfl) rfl rfl
  refine Call_ (ld_blt I hg2 hm2 boot_set ?_)
  refine PyProof.Rows.callWith_type1 (PyProof.Rows.args_cons (thn (ha.run pins s σ H _ I h) fun v s1 ⟨x, H1, I1, r1, q1⟩ => PyProof.Rows.args_nil ?_) na) na rfl
  obtain ⟨l, ns, rfl, hq, hl, q1⟩ := q1
  cases r1
  obtain ⟨its, r, pl, hz⟩ := I1.list hq
  refine set_of_list ns (I1.ok.hd hc) pl.isList (by simpa using r.ints) (by unfold scanBound; omega) fun h' tk c R hcn hk => ?_
  refine PyProof.Rows.args_nil ?_
  obtain ⟨o, es, ep, t, ho, hex, hd, g, nd, hmm, hb, hf, hn, hr, hl2⟩ := R
  have I2 : Inv X pins σ H1 { s1 with heap := h', toks := tk } := I1.kept fun b o e => hk b o e
  have hks := q1 (es.toList.map L2.keyOf) nd (fun k => by rw [← hmm k]; simp)
  rw [List.length_map, Array.length_toList] at hks
  exact call_len_set ho hex hd hf (by omega) ⟨.int (es.size : Nat), H1, I2.tok _, ⟨_, rfl⟩, hks⟩
@[simp] def dLenSet (tq : DQ) : DE := fun r Q E => tq r (fun b ds => b = true ∧ ∃ ns : List Int, ds = ns.map .int ∧ ns.length < 4000 ∧ ∀ ks : List Int, ks.Nodup → (∀ k, k ∈ ks ↔ k ∈ ns) → Q (.int (ks.length : Nat))) E
theorem fe_lenSet {a : Expr} {tq : DQ} {p p2 q : Pos} (hc : X.calm = true) (hg : Gl X "len") (hm : X.mg "len" = none) (hg2 : Gl X "set") (hm2 : X.mg "set" = none) (ha : FQ X T E a tq)
    (na : starEach [a] X.env = (false, eval a X.env) :: starEach [] X.env := by rfl) : FE X T E (.Call (.Name "len" p) [.Call (.Name "set" p2) [a] [] q] [] pos) (dLenSet tq) := by
  refine FE.mk' (pe_lenSetA hc hg hm hg2 hm2 ha.pe na) fun sg H Q ⟨H0, G0, r, G, Qd, Ed, h, er, w, k, x⟩ => ?_
  refine ⟨H0, G0, r, G, _, Ed, h, er, w, fun b ds a vs H1 G1 h1 sq p1 ⟨hb, ns, e, hl, q⟩ => ?_, x⟩
  subst hb e
  have ev := p1.ofInts
  subst ev
  exact ⟨a, ns, rfl, sq, hl, fun ks nd hk => k _ _ H1 G1 h1 (.int _) (q ks nd hk)⟩
end
end Fd
end
section
set_option Elab.async false
set_option linter.all false
set_option maxRecDepth 100000
set_option autoImplicit false
set_option maxHeartbeats 2000000
/-! FdO: t[::-1], t a tuple or a list. -/
namespace Fd
open PySem PySem.Spec PyProof.Rows L2 LamX
section
variable {prog : Program} {w : World} {A : Around} {E : Value → Shared → Prop} {s : Shared}
theorem places_rev (n : Nat) : Builtin.Slice.slicePlaces ((n : Int) - 1) (-1) (-1) = n := by
  unfold Builtin.Slice.slicePlaces
  rw [if_neg (by decide)]
  by_cases h : n = 0
  · subst h; rfl
  · rw [if_pos (by omega)]
    simp
theorem sliceApplied_rev {sl : Addr} {vl vu vs : Value} {n : Nat} {Q : Int × Int × Nat → Shared → Prop} (hs : s.heap.IsSliceOf sl vl vu vs) (pl : IsPart vl none) (pu : IsPart vu none) (ps : IsPart vs (some (-1)))
    (h : Q (((n : Int) - 1), -1, n) s) : wpAny (model prog w) A (Builtin.Slice.sliceApplied (.ref sl) (pure (n : Int))) Q E s := by
  obtain ⟨os, hos, hcs, hds⟩ := id hs
  unfold Builtin.Slice.sliceApplied Builtin.Slice.sliceFields
  refine wpAny_bind (wpAny_bind (wpAny_field hos hds (x := vl) rfl (wpAny_bind (wpAny_field hos hds (x := vu) rfl (wpAny_bind (wpAny_field hos hds (x := vs) rfl (wpAny_pure ?_)))))))
  refine wpAny_bind (HT.slicePart_ ps ?_)
  show wpAny _ _ (if ((-1 : Int) == 0) = true then _ else _) _ _ s
  rw [if_neg (by decide)]
  refine wpAny_bind (HT.slicePart_ pl (wpAny_bind (HT.slicePart_ pu (wpAny_bind (wpAny_pure ?_)))))
  show wpAny _ _ (match Builtin.Slice.sliceAdjust none none (-1) (n : Int) with | (lo, hi) => pure (lo, (-1 : Int), Builtin.Slice.slicePlaces lo hi (-1))) _ _ s
  have e : Builtin.Slice.sliceAdjust none none (-1) (n : Int) = ((n : Int) - 1, -1) := rfl
  rw [e]
  show wpAny _ _ (pure ((n : Int) - 1, (-1 : Int), Builtin.Slice.slicePlaces ((n : Int) - 1) (-1) (-1))) _ _ s
  rw [places_rev]
  exact wpAny_pure h
theorem pick_rev (xs : Array Value) : ((List.range xs.size).filterMap fun (m : Nat) => xs[(((xs.size : Int) - 1) + (m : Int) * (-1)).toNat]?).toArray = xs.toList.reverse.toArray := by
  congr 1
  have e : ∀ l : List Nat, (∀ m ∈ l, m < xs.size) → l.filterMap (fun (m : Nat) => xs[(((xs.size : Int) - 1) + (m : Int) * (-1)).toNat]?) = l.map fun m => xs.toList.getD (xs.size - 1 - m) .none := fun l => by
    induction l with
    | nil => intro _; rfl
    | cons m l ih =>
      intro hl
      have hm := hl m (List.mem_cons_self ..)
      have e1 : (((xs.size : Int) - 1) + (m : Int) * (-1)).toNat = xs.size - 1 - m := by omega
      rw [List.filterMap_cons, e1, Array.getElem?_eq_getElem (by omega), List.map_cons, ih fun x hx => hl x (List.mem_cons_of_mem _ hx)]
      congr 1
      rw [List.getD_eq_getElem?_getD, List.getElem?_eq_getElem (by rw [Array.length_toList]; omega)]
      simp
  rw [e _ fun m hm => List.mem_range.mp hm]
  apply List.ext_getElem
  · simp
  · intro i h1 h2
    simp at h1 h2
    simp [List.getD_eq_getElem?_getD, h1, h2]
    rw [Array.getElem?_eq_getElem (by omega)]
    simp
theorem getItem_tuple_rev {t sl : Addr} {items : Array Value} {vl vu vs : Value} {Q : Value → Shared → Prop} (ht : IsTup s.heap t items) (hs : s.heap.IsSliceOf sl vl vu vs) (pl : IsPart vl none) (pu : IsPart vu none) (ps : IsPart vs (some (-1)))
    (h : Q (.ref s.heap.objs.size) { s with heap := s.heap.push { cls := .type "tuple", data := .seq items.toList.reverse.toArray } })
    (hsz : items.size ≤ sizeLine) : wpAny (model prog w) A (getItem (.ref t) (.ref sl)) Q E s := by
  have htake : sizeOk (.seq items.toList.reverse.toArray) := by
    show items.toList.reverse.toArray.size ≤ sizeLine
    rw [List.size_toArray, List.length_reverse, Array.length_toList]
    omega
  obtain ⟨os, hos, hcs, hds⟩ := id hs
  have hTs : s.TypeIs (.ref sl) "slice" := ⟨os, hos, hcs⟩
  unfold getItem
  try with_reducible refine wpAny_holding ?_
  first | refine wpAny_bind (wpAny_pure ?_) | skip
  refine wpAny_bind (wpAny_sequenceKey ht.typeIs (by decide) ?_)
  refine wpAny_bind (wpAny_callSpecial?_slot (name := Str.ofString "__getitem__") ht.typeIs PyProof.Rows.slot_tuple_getitem
    (wpAny_call_entry PyProof.Rows.slot_tuple_getitem ht.typeIs entry_tuple_getitem ?_ (args_tuple_getitem _ _)))
  show wpAny _ _ (Builtin.Tuple.tupleItemsOf (.ref t) >>= _) _ _ s
  refine wpAny_bind (tupleItemsOf_ ht ?_)
  refine wpAny_bind (wpAny_typeOf hTs ?_)
  rw [if_pos (by decide)]
  refine wpAny_bind (sliceApplied_rev (n := items.size) hs pl pu ps ?_)
  have hno : ¬ ((((items.size : Int) - 1) == 0 && (-1 : Int) == 1 && items.size == items.size) = true) := by simp
  show wpAny _ _ (if (((items.size : Int) - 1) == 0 && (-1 : Int) == 1 && items.size == items.size) = true then _ else _) _ _ s
  rw [if_neg hno, pick_rev]
  first
    | exact wpAny_bind (m := Builtin.Tuple.tupleExact _) (wpAny_newObj_type (wpAny_pure ⟨_, rfl, wpAny_pure h⟩) htake)
    | exact wpAny_bind (m := Builtin.Tuple.tupleExact _) (wpAny_newObj_type (wpAny_bind (wpAny_pure (wpAny_pure ⟨_, rfl, wpAny_pure h⟩))) htake)
    | exact wpAny_bind (wpAny_bind (m := Builtin.Tuple.tupleExact _) (wpAny_newObj_type (wpAny_pure (wpAny_pure ⟨_, rfl, wpAny_pure h⟩)) htake))
    | exact wpAny_bind (wpAny_bind (m := Builtin.Tuple.tupleExact _) (wpAny_newObj_type (wpAny_pure ⟨_, rfl, wpAny_pure h⟩) htake))
end
section
variable {X : Cx} {T : Tb} {E : XK} {pos : Pos}
def tRevA (K : PySem.W.Frag) (te : TE) : TE := fun σ H Q => te σ H fun x H1 => (∃ a xs, x = .ref a ∧ SqL K H1 a xs ∧ ∀ p, H1 p = none → Q (.ref p) (upd H1 p (.lst xs.reverse))) ∨ ∃ a xs, x = .ref a ∧ SqT K H1 a xs ∧ ∀ p, H1 p = none → Q (.ref p) (upd H1 p (.tup xs.reverse))
theorem pe_revA {e : Expr} {te : TE} {k : Nat} {p1 p2 p3 : Pos} (he : PE X e te) : PE X (.Subscript e (.Slice none none (some (.UnaryOp .USub (.Constant (.int 1) k p1) p2)) p3) pos) (tRevA X.K te) := by
  refine ⟨fun pins s σ H Q I h => ?_⟩
  refine Subscript_ (thn (he.run pins s σ H _ I h) fun v s1 ⟨x, H1, I1, r1, q1⟩ => ?_)
  have hst : PO X (some (.UnaryOp .USub (.Constant (.int 1) k p1) p2)) (tPart (tUn (rU fun i => .int (-i)) (tC (.int 1)))) := po_some (pe_un un_neg pe_int)
  refine wpAny_Slice (thn (po_none.run pins s1 σ H1 (fun o H2 => o = none ∧ H2 = H1) I1 ⟨rfl, rfl⟩) fun vl s2 ⟨l, H2, I2, pl, el, e2⟩ => ?_)
  subst el e2
  refine thn (po_none.run pins s2 σ H2 (fun o H3 => o = none ∧ H3 = H2) I2 ⟨rfl, rfl⟩) fun vu s3 ⟨u, H3, I3, pu, eu, e3⟩ => ?_
  subst eu e3
  refine thn (hst.run pins s3 σ H3 (fun o H4 => o = some (-1) ∧ H4 = H3) I3 ⟨1, rfl, -1, rfl, rfl, rfl⟩) fun vs s4 ⟨o, H4, I4, ps, eo, e4⟩ => ?_
  subst eo e4
  have I5 : Inv X pins σ H4 { s4 with heap := s4.heap.push { cls := .type "slice", data := .fields #[vl, vu, vs] } } := I4.kept (t' := s4.toks) fun b ob q => Heap.get?_push_of_some _ q
  rcases q1 with ⟨a, xs, ex, hx, q⟩ | ⟨a, xs, ex, hx, q⟩
  · subst ex
    cases r1
    obtain ⟨its, r, ht, hz⟩ := I5.list hx
    have hlen := r.length
    show wpAny (model X.prog X.w) X.A (subscriptTail e (.Slice none none (some (.UnaryOp .USub (.Constant (.int 1) k p1) p2)) p3) (.ref a) (.ref s4.heap.objs.size)) (EP X pins σ Q) X.xe { s4 with heap := s4.heap.push { cls := .type "slice", data := .fields #[vl, vu, vs] } }
    refine tail_any (ops := [.ref a, .ref s4.heap.objs.size]) ht.isList.typeIs (PySem.slot_list_getitem.lookup) ?_ (by with_unfolding_all rfl)
    refine wpAny_getItem_list_slice ht.isList (Heap.IsSliceOf.new _ vl vu vs) pl pu ps (by decide) ?_ (by rw [List.size_toArray]; omega)
    rw [PySem.W.krv_pick]
    refine ⟨.ref _, _, I5.laid (t' := s4.toks) (o := .lst xs.reverse) (fun b ob q => Heap.get?_push_of_some _ q) (Nat.le_refl _) ?_, rfl, q _ (I5.hok.fresh (Nat.le_refl _))⟩
    exact ⟨by rw [List.length_reverse]; exact hz, _, 0, r.reverse, Heap.get?_push_size _ rfl⟩
  · subst ex
    cases r1
    obtain ⟨its, r, ht, hz⟩ := I5.tuple hx
    have hlen := r.length
    show wpAny (model X.prog X.w) X.A (subscriptTail e (.Slice none none (some (.UnaryOp .USub (.Constant (.int 1) k p1) p2)) p3) (.ref a) (.ref s4.heap.objs.size)) (EP X pins σ Q) X.xe { s4 with heap := s4.heap.push { cls := .type "slice", data := .fields #[vl, vu, vs] } }
    refine tail_any (ops := [.ref a, .ref s4.heap.objs.size]) ht.typeIs (PyProof.Rows.slot_tuple_getitem.lookup) ?_ (by with_unfolding_all rfl)
    refine getItem_tuple_rev ht (Heap.IsSliceOf.new _ vl vu vs) pl pu ps ?_ (by rw [List.size_toArray]; omega)
    refine ⟨.ref _, _, I5.laid (t' := s4.toks) (o := .tup xs.reverse) (fun b ob q => Heap.get?_push_of_some _ q) (Nat.le_refl _) ?_, rfl, q _ (I5.hok.fresh (Nat.le_refl _))⟩
    exact ⟨by rw [List.length_reverse]; exact hz, _, r.reverse, IsTup.new _ _⟩
def dRevd : PyData → (PyData → Prop) → Prop
  | .list ds, Q => Q (.list ds.reverse)
  | .tuple ds, Q => Q (.tuple ds.reverse)
  | _, _ => False
@[simp] theorem dRevd_1 {ds : List PyData} {Q : PyData → Prop} : dRevd (.list ds) Q = Q (.list ds.reverse) := rfl
@[simp] theorem dRevd_2 {ds : List PyData} {Q : PyData → Prop} : dRevd (.tuple ds) Q = Q (.tuple ds.reverse) := rfl
@[simp] def dRev (t : DE) : DE := fun r Q E => t r (fun d => dRevd d Q) E
theorem fe_rev {e : Expr} {te : DE} {k : Nat} {p1 p2 p3 : Pos} (he : FE X T E e te) : FE X T E (.Subscript e (.Slice none none (some (.UnaryOp .USub (.Constant (.int 1) k p1) p2)) p3) pos) (dRev te) := by
  refine FE.mk' (pe_revA he.pe) fun sg H Q ⟨H0, G0, r, G, Qd, Ed, h, er, w, k, x⟩ => ?_
  refine ⟨H0, G0, r, G, _, Ed, h, er, w, fun d v H1 G1 h1 p1 w1 => ?_, x⟩
  cases p1 with
  | lst hs ha =>
    refine .inl ⟨_, _, rfl, h1.sub.seq hs, fun p hp => ?_⟩
    exact k _ _ _ _ (h1.trans (h1.laidL hp)) (.lst (SqL.of upd_same) (ha.rev.up (h1.laidL hp).g0)) w1
  | tup hs ha =>
    refine .inr ⟨_, _, rfl, sqT_mono h1.sub hs, fun p hp => ?_⟩
    exact k _ _ _ _ (h1.trans (h1.laidT hp)) (.tup (SqT.of upd_same) (ha.rev.up (h1.laidT hp).g0)) w1
  | _ => exact w1.elim
end
end Fd
end
section
set_option Elab.async false
set_option linter.all false
set_option maxRecDepth 100000
set_option autoImplicit false
set_option maxHeartbeats 2000000
/-! FdP: exceptions of own classes, by the class's name: defs that let them out, raise, x(lambda: ..) with a def that catches. -/
namespace Fd
open PySem PySem.Spec PyProof.Rows L2 LamX
/-- an exception, by the name of its class -/
def xT (n : Str) : Value := .str n 0
def clsOf (K : PySem.W.Frag) : Value → Value
  | .str n _ => .ref (He.ga K n)
  | v => v
/-- the wishes E are taken -/
def TX (X : Cx) (E : XK) : Prop := ∃ W : WX, Takes X W ∧ ∀ c sg H, E c none H → W (clsOf X.K c) none sg H
def spX (K : PySem.W.Frag) (T : Tb) (ff : List PyData → M PyData) : Sp := fun vs H Q E => spF K T ff vs H Q (fun c d H => E (clsOf K c) d H)
/-- the def x, as the module has it, keeps the contract ff; exceptions may leave it -/
def OkX (P : Program) (w : World) (K : PySem.W.Frag) (mg : Str → Option Value) (base : Heap) (T : Tb) (k : Nat) (x : Str) (ps : List Str) (ff : List PyData → M PyData) : Prop :=
  ∃ f fd, FnOk P w K mg base (L2.CX P w) k f fd ps (spX K T ff) ∧ mg x = some (.ref f) ∧ PySem.W.keepIn K (.ref f) = true ∧ Binds K fd ps []
section
variable {X : Cx} {T : Tb} {E : XK} {e : Expr} {es : List Expr} {pos : Pos}
theorem tx_pass (h : TX X E) : Passes (L2.CX X.prog X.w) X (fun cls d H => d = none ∧ ∃ c, cls = clsOf X.K c ∧ E c none H) := by
  obtain ⟨W, tk, hW⟩ := h
  exact passes_call tk fun cls d sg H ⟨hd, c, hc, q⟩ => by subst hd hc; exact hW c sg H q
theorem pass_never : Passes (L2.CX X.prog X.w) X (fun _ _ _ => False) := fun _ _ _ _ _ _ _ ⟨_, _, _, _, _, _, _, _, _, _, _, _, z⟩ => z.elim
theorem fe_defX {j k : Nat} {x : Str} {ps : List Str} {p : Pos} {ff : List PyData → M PyData} {ts : DA} (F : OkX X.prog X.w X.K X.mg X.base T k x ps ff) (tx : TX X E) (hr : Room j X.A) (hg : Gl X x) (ha : FA X T E (e :: es) ts) (hk : Nat.ble k j = true := by rfl) (hdb : (x == ("__debug__" : Str)) = false := by decide) (he : starEach (e :: es) X.env = (false, eval e X.env) :: starEach es X.env := by rfl)
    (hpl : (backTo pos (starEach es X.env)).any (·.1) = false := by rfl) : FE X T E (.Call (.Name x p) (e :: es) [] pos) (dCall ff ts) := by
  obtain ⟨f, fd, F, hm, hkp, hb⟩ := F
  refine FE.mk' (pe_call F (hr.mono (Nat.le_of_ble_eq_true hk)) hg hm hkp hb .nil (tx_pass tx) ha.pa hdb he hpl) fun sg H Q ⟨H0, G0, r, G, Qd, Ed, h, er, w, k, x⟩ => ?_
  refine ⟨H0, G0, r, G, _, Ed, h, er, w, fun ds vs H1 G1 h1 p1 w1 => ?_, x⟩
  exact ⟨ds, G1, Qd, Ed, h1.refl, by rw [List.append_nil]; exact p1, w1, fun d v H' G' z => k d v H' G' (h1.trans z), fun c H' G' z q => ⟨rfl, c, rfl, x.up h1 c H' G' z q⟩⟩
/-- .. where none leaves it -/
@[simp] def dCallN (f : List PyData → M PyData) (t : DA) : DE := fun r Q E => t r (fun ds => f ds Q (fun _ => False)) E
theorem fe_defN {j k : Nat} {x : Str} {ps : List Str} {p : Pos} {ff : List PyData → M PyData} {ts : DA} (F : OkX X.prog X.w X.K X.mg X.base T k x ps ff) (hr : Room j X.A) (hg : Gl X x) (ha : FA X T E (e :: es) ts) (hk : Nat.ble k j = true := by rfl) (hdb : (x == ("__debug__" : Str)) = false := by decide) (he : starEach (e :: es) X.env = (false, eval e X.env) :: starEach es X.env := by rfl)
    (hpl : (backTo pos (starEach es X.env)).any (·.1) = false := by rfl) : FE X T E (.Call (.Name x p) (e :: es) [] pos) (dCallN ff ts) := by
  obtain ⟨f, fd, F, hm, hkp, hb⟩ := F
  refine FE.mk' (pe_call F (hr.mono (Nat.le_of_ble_eq_true hk)) hg hm hkp hb .nil pass_never ha.pa hdb he hpl) fun sg H Q ⟨H0, G0, r, G, Qd, Ed, h, er, w, k, x⟩ => ?_
  refine ⟨H0, G0, r, G, _, Ed, h, er, w, fun ds vs H1 G1 h1 p1 w1 => ?_, x⟩
  exact ⟨ds, G1, Qd, fun _ => False, h1.refl, by rw [List.append_nil]; exact p1, w1, fun d v H' G' z => k d v H' G' (h1.trans z), fun c H' G' z q => q.elim⟩
/-! ### raise C('m') -/
@[simp] def dRaise (c : Value) : DS := fun D _ => D.ex c
structure ExR (K : PySem.W.Frag) (mg : Str → Option Value) (x : Str) : Prop where
  m : mg x = some (.ref (He.ga K x))
  e : PySem.W.excIn K (He.ga K x) He.veBase "ValueError.__new__" = true
  k : PySem.W.keepIn K (.ref (He.ga K x)) = true
  s : PySem.W.subIn K (.ref (He.ga K x)) (.type "BaseException") = some true
  t : PySem.W.typeIn K (.ref (He.ga K x)) = some (.type "type")
theorem fs_raise {x m : Str} {j : Nat} {p p2 pos' : Pos} (hc : X.calm = true) (tx : TX X E) (R : ExR X.K X.mg x) (hg : Gl X x) (hdb : (x == ("__debug__" : Str)) = false := by decide) :
    FS X T E (.Raise (some (.Call (.Name x p) [.Constant (.str m) j p2] [] pos)) none pos') (dRaise (xT x)) := by
  obtain ⟨W, tk, hW⟩ := tx
  refine FS.mk' (ps_raise hc tk (pmk_own PySem.F.excBase_ValueError R.e R.m R.k (raises_own R.s R.t) hg hdb)) fun D sg H ⟨H0, G0, r, G, Dd, h, er, w, k⟩ => ?_
  exact hW (xT x) sg H (k.ex _ H G h w)
end
section
variable {P : Program} {w : World} {K : PySem.W.Frag} {mg : Str → Option Value} {base : Heap} {T : Tb}
theorem mkOkX {x : Str} {st : Stmt} {f : Addr} {N ps : List Str} {k : Nat} {t : DS} {ff : List PyData → M PyData} (F : ∃ fd, FunD K x x (defArgs st) (defBody st) (defScope st) [] [] f fd) (hm : mg x = some (.ref f)) (S : FnScope N ps (defScope st))
    (hbind : ∀ (kV doc pm : Value) (an : Option Addr) (cdv ct : Value) (us : List Value), us.length = ps.length → bindArgs (PySem.W.fnOf x x (defArgs st) (defBody st) (defScope st) .none kV doc pm an cdv ct) ⟨us, []⟩ = pure (ps.zip us))
    (len : ∀ ds Q E, ff ds Q E → ds.length = ps.length)
    (hb : ∀ (cdv : Value) (A : Around) (outer : List Env) (s : Shared) (H : Hp) (E : XK), Room k (A.deeper (envOfC x (defScope st) s.heap.objs.size f cdv)) →
      TX (cxOf (L2.CX P w) P w K mg base N x (defScope st) f cdv A outer s H E) (fun c d H => E (clsOf K c) d H) →
      PassesOwn (model P w) (cxOf (L2.CX P w) P w K mg base N x (defScope st) f cdv A outer s H E).A (cxOf (L2.CX P w) P w K mg base N x (defScope st) f cdv A outer s H E).env (cxOf (L2.CX P w) P w K mg base N x (defScope st) f cdv A outer s H E).xe →
      FSs (cxOf (L2.CX P w) P w K mg base N x (defScope st) f cdv A outer s H E) T (fun c d H => E (clsOf K c) d H) (defBody st) t)
    (ht : ∀ ds Q E, ff ds Q E → dFn t N ds Q E) : OkX P w K mg base T (k + 1) x ps ff := by
  obtain ⟨fd, F⟩ := F
  refine ⟨f, fd, ?_, hm, F.kp, F.bindsN hbind⟩
  obtain ⟨oc, od, dV, kV, doc, pm, an, cdv, ct, osl, rfl, lk, hcd, _, _⟩ := F.ex
  refine fn_of lk hcd S (fun vs H Q E ⟨ds, G, Qd, Ed, a, b, c, _⟩ => b.len.trans (len ds Qd Ed c)) fun A outer s H vs Q E hr ⟨ds, G, Qd, Ed, a, b, c, d, x⟩ => ⟨_, (hb cdv A outer s H E hr ⟨_, takes_of rfl rfl rfl rfl, fun c sg H q => q⟩ (passes_of rfl)).pss, ?_⟩
  exact ⟨H, G, startD N ds, G, _, a, er_start (T := T) b, ht ds Qd Ed c, ⟨fun r sg H' G' z _ _ q => d .none .non H' G' z .non q, fun _ _ _ _ _ _ _ q => q.elim, fun _ _ _ _ _ _ _ q => q.elim, fun dd v H' G' z p q => d dd v H' G' z p q, fun c H' G' z q => x c H' G' z q⟩⟩
theorem tx_lam {X : Cx} {A : Around} {outer : List Env} {s : Shared} {H : Hp} {E : XK} {scope : Scope} {f c' : Addr} : TX (lamCx X A outer s H E scope f c') (fun c d H => E (clsOf X.K c) d H) :=
  ⟨_, takes_of rfl rfl rfl rfl, fun c sg H q => q⟩
end
/-! ### a def that calls the lambda which it got, and catches -/
/-- the def x, as the module has it, makes TT of what it is given -/
def Told (K : PySem.W.Frag) (mg : Str → Option Value) (x : Str) (TT : (XK → Hp → VK → Prop) → Hp → VK → Prop) : Prop :=
  ∃ (a : Str) (g : Addr) (Ng : List Str) (pg : Arguments) (bg : List Stmt) (sg : Scope) (dV kV doc pm cdv ct oc : Value) (an od : Option Addr) (osl : Array (Option Value)), mg x = some (.ref g) ∧ PySem.W.keepIn K (.ref g) = true ∧
    K.lookup g = some ⟨oc, od, .func (PySem.W.fnOf x x pg bg sg dV kV doc pm an cdv ct), osl⟩ ∧ PySem.W.codeIn K cdv x = true ∧ L2.Binds K (PySem.W.fnOf x x pg bg sg dV kV doc pm an cdv ct) [a] [] ∧ FnScope Ng [a] sg ∧ Ng[0]? = some a ∧ Vis sg a ∧
    (a == ("__debug__" : Str)) = false ∧ (a == ("__classdict__" : Str)) = false ∧ ∀ (X : Cx) (q : Str) (k : Nat), X.K = K → X.mg = mg → Room (k + 1) X.A → GivesTo X Ng x sg g cdv bg a q TT
theorem mkTold {K : PySem.W.Frag} {mg : Str → Option Value} {x a : Str} {st : Stmt} {f : Addr} {Ng : List Str} {TT : (XK → Hp → VK → Prop) → Hp → VK → Prop} (F : ∃ fd, FunD K x x (defArgs st) (defBody st) (defScope st) [] [] f fd) (hm : mg x = some (.ref f)) (S : FnScope Ng [a] (defScope st))
    (hbind : ∀ (kV doc pm : Value) (an : Option Addr) (cdv ct : Value) (us : List Value), us.length = [a].length → bindArgs (PySem.W.fnOf x x (defArgs st) (defBody st) (defScope st) .none kV doc pm an cdv ct) ⟨us, []⟩ = pure ([a].zip us))
    (h0 : Ng[0]? = some a) (hv : Vis (defScope st) a) (hd : (a == ("__debug__" : Str)) = false) (hcd : (a == ("__classdict__" : Str)) = false)
    (hG : ∀ (X : Cx) (cdv : Value) (q : Str) (k : Nat), X.K = K → X.mg = mg → Room (k + 1) X.A → GivesTo X Ng x (defScope st) f cdv (defBody st) a q TT) : Told K mg x TT := by
  obtain ⟨fd, F⟩ := F
  have b := F.bindsN hbind
  obtain ⟨oc, od, dV, kV, doc, pm, an, cdv, ct, osl, rfl, lk, hc, _, _⟩ := F.ex
  exact ⟨a, f, Ng, _, _, _, dV, kV, doc, pm, cdv, ct, oc, an, od, osl, hm, F.kp, lk, hc, b, S, h0, hv, hd, hcd, fun X q k e1 e2 hr => hG X cdv q k e1 e2 hr⟩
/-- told: ('told', ..) or ('refused', i) -/
def TTold (K : PySem.W.Frag) (cs : List (Str × V)) : (XK → Hp → VK → Prop) → Hp → VK → Prop := fun tl H Q => ∃ (E : XK) (Q' : VK), tl E H Q' ∧
  (∀ cls d H', E cls d H' → d = none ∧ ∃ n v, (n, v) ∈ cs ∧ cls = .ref (He.ga K n) ∧ ∀ H2 p, Same H' H2 → H' p = none → H2 p = some (.tup [.str "refused", v]) → Q (.ref p) H2) ∧
  (∀ v H', Q' v H' → ∀ p, H' p = none → Q (.ref p) (upd H' p (.tup [.str "told", v])))
@[simp] def dTold (cs : List (Str × PyData)) (t : DE) : DE := fun r Q E => t r (fun d => Q (.tuple [.str "told", d])) (fun c => ∃ n d, (n, d) ∈ cs ∧ c = xT n ∧ Q (.tuple [.str "refused", d]))
section
variable {X : Cx} {T : Tb} {E : XK}
theorem fe_told {x : Str} {cv : List (Str × V)} {cd : List (Str × PyData)} {c P : Addr} {j k : Nat} {params : Arguments} {body : Expr} {scope : Scope} {t : DE} {p lpos pos : Pos} (C : Told X.K X.mg x (TTold X.K cv)) (hcs : ∀ n d, (n, d) ∈ cd → ∃ v, (n, v) ∈ cv ∧ ∀ G, Dp X.K G v d) (hg : Gl X x)
    (TB : TabB X.base X.mg c P) (hcode : X.env.code = .ref c) (hmT : (P, X.env.qual ++ "<lambda>") ∈ T) (hu : ∀ p ∈ T, p.1 = P → p.2 = X.env.qual ++ "<lambda>") (hr : Room j X.A) (L : LamS X.env.scope scope) (hdef : defaultsOf params X.env = ([], []))
    (hbind : ∀ (q : Str) (cl : List (Str × Addr)) (pm cv ctv : Value), bindArgs (PySem.W.kla_fn "<lambda>" q params body scope cl pm cv ctv) ⟨[], []⟩ = pure [])
    (hbody : ∀ (A : Around) (outer : List Env) (s : Shared) (H : Hp) (E : XK) (f c' : Addr), Room k (A.deeper (lamEnv X scope s.heap.objs.size f c')) → FE (lamCx X A outer s H E scope f c') T (fun c d H => E (clsOf X.K c) d H) body t)
    (hk : Nat.ble (k + 2) j = true := by rfl) (hdb : (x == ("__debug__" : Str)) = false := by decide) : FE X T E (.Call (.Name x p) [.Lambda params body scope lpos] [] pos) (dTold cd t) := by
  obtain ⟨a, g, Ng, pg, bg, sg, dV, kV, doc, pm, cdv, ct, oc, an, od, osl, hm, hkp, lk, hc, hb, S, h0, hv, hd, hcd, hG⟩ := C
  have hr2 := hr.mono (Nat.le_of_ble_eq_true hk)
  refine FE.mk' (pe_lamcall (t := fun E => lf X.K T (fun c d H => E (clsOf X.K c) d H) t) hg hm hkp lk hc hb S h0 hv (hG X _ (k + 1) rfl rfl hr2) TB hcode hmT hu hr2 L hdef hbind (fun A outer s H E f c' h => (hbody A outer s H E f c' h).pe) hdb hd hcd) fun sg H Q ⟨H0, G0, r, G, Qd, Ed, h, er, w, kk, x⟩ => ?_
  refine ⟨h.tabs, fun H1 ex tb => ?_⟩
  have h1 : HR T H G H1 G := ⟨ext_of_same h.sub h.nt ex, h.nt, tb, ex, Same.refl _, fun a z => .inl z⟩
  refine ⟨fun cls d H' => d = none ∧ ∃ n v, (n, v) ∈ cv ∧ cls = .ref (He.ga X.K n) ∧ ∀ H2 p, Same H' H2 → H' p = none → H2 p = some (.tup [.str "refused", v]) → Q (.ref p) H2, fun v H' => ∀ p, H' p = none → Q (.ref p) (upd H' p (.tup [.str "told", v])),
    ⟨H0, G0, r, G, _, _, h.trans h1, er.grow h1, w, fun d v H2 G2 h2 p2 q p hp => ?_, fun cc H2 G2 h2 ⟨n, d, hnd, ec, q⟩ => ?_⟩, fun _ _ _ z => z, fun _ _ z => z⟩
  · have z := (h2.refl).laidT (vs := [.str "told", v]) hp
    exact kk _ _ _ _ ((h1.trans h2).trans z) (.tup (SqT.of upd_same) (.cons (.str _) (.cons (p2.up z.g0) .nil))) q
  · obtain ⟨v, hv, dv⟩ := hcs n d hnd
    refine ⟨rfl, n, v, hv, by rw [ec]; rfl, fun H3 p sm np hp => ?_⟩
    have gp : G2 p = none := by
      cases q : G2 p with
      | none => rfl
      | some u => rw [h2.sub p u q] at np; cases np
    have z : HR T H2 G2 H3 (upd G2 p (.tup [.str "refused", v])) := by
      refine ⟨fun b o e => ?_, fun b ps e => ?_, h2.tabs.ext sm, ExtN.of sm, fun b o e => by rw [upd_ne (ne_of_none e gp)]; exact e, fun b e => ?_⟩
      · by_cases hb : b = p
        · subst hb; rw [upd_same] at e; cases e; exact hp
        · rw [upd_ne hb] at e; exact sm b o (h2.sub b o e)
      · by_cases hb : b = p
        · subst hb; rw [upd_same] at e; cases e
        · rw [upd_ne hb] at e; exact h2.nt b ps e
      · by_cases hb : b = p
        · subst hb; exact .inr (NT.none np)
        · rw [upd_ne hb] at e; exact .inl e
    exact kk _ _ _ _ ((h1.trans h2).trans z) (.tup (SqT.of upd_same) (.cons (.str _) (.cons (dv _) .nil))) q
end
end Fd
end
section
set_option Elab.async false
set_option linter.all false
set_option maxRecDepth 100000
set_option autoImplicit false
set_option maxHeartbeats 2000000
/-! FdQ: the two defs of the laws that tell what a deed comes to. -/
namespace Fd
open PySem PySem.Spec PyProof.Rows L2 LamX
theorem takes_len {X : Cx} {W : WX} (tk : Takes X W) : Takes X (fun c d sg H => sg.length = X.N.length → W c d sg H) := fun u s' ⟨a, B, sI, pins, sg, H, cls, d, e, I, nb, up, sky, na, os, ag, w⟩ =>
  tk u s' ⟨a, B, sI, pins, sg, H, cls, d, e, I, nb, up, sky, na, os, ag, w I.len⟩
theorem PE.weaker {X : Cx} {e : Expr} {t : TE} (h : PE X e t) : PE X e (fun sg H Q => ∃ Q' : VK, t sg H Q' ∧ ∀ v H', Q' v H' → Q v H') := ⟨fun pins s sg H Q I ⟨Q', w, k⟩ =>
  thn (h.run pins s sg H Q' I w) fun u s1 ⟨v, H1, I1, r1, q1⟩ => ⟨v, H1, I1, r1, k v H1 q1⟩⟩
structure ExT (K : PySem.W.Frag) (mg : Str → Option Value) (ns : List Str) : Prop where
  mD : mg "DrawError" = some (.ref (He.ga K "DrawError"))
  m : ∀ n ∈ ns, mg n = some (.ref (He.ga K n))
  c : ∀ n ∈ ns, ExcC K (He.ga K n)
  x : ∀ n ∈ ns, PySem.W.exmOne K (.ref (He.ga K n)) (.ref (He.ga K "DrawError")) = some true
  v : ∀ n ∈ ns, PySem.W.kitOne K (.ref (He.ga K n)) (.type "ValueError") = some true
  i : ∀ n ∈ ns, ∀ m ∈ ns, PySem.W.kitOne K (.ref (He.ga K n)) (.ref (He.ga K m)) = some (decide (n = m))
def excCB (K : PySem.W.Frag) (D : Addr) : Bool :=
  He.eqO (PySem.W.findIn K (.ref D) "__getattribute__") (some (some (.builtin "BaseException.__getattribute__"))) && (He.eqO (PySem.W.findIn K (.ref D) "__getattr__") (some none) && (decide (PySem.W.subIn K (.ref D) (.type "BaseException") = some true) && (PySem.W.hasDictIn K D &&
  (He.eqO (PySem.W.findIn K (.ref D) "__class__") (some (some (.builtin "object.__class__"))) && (He.eqO (PySem.W.specialIn K (.builtin "object.__class__") "__get__") (some (some (.builtin "getset_descriptor.__get__"))) && (decide (PySem.W.takesIn K (.builtin "object.__class__") = some true) && decide (PySem.W.mroIn K D (.type "object") = some true)))))))
theorem excC_of {K : PySem.W.Frag} {D : Addr} (h : excCB K D = true) : ExcC K D := by
  unfold excCB at h
  simp only [Bool.and_eq_true, decide_eq_true_eq] at h
  obtain ⟨h1, h2, h3, h4, h5, h6, h7, h8⟩ := h
  exact ⟨He.eqO_ok h1, He.eqO_ok h2, h3, h4, He.eqO_ok h5, He.eqO_ok h6, h7, h8⟩
def extB (K : PySem.W.Frag) (ns : List Str) : Bool := ns.all fun n => excCB K (He.ga K n) && (decide (PySem.W.exmOne K (.ref (He.ga K n)) (.ref (He.ga K "DrawError")) = some true) && (decide (PySem.W.kitOne K (.ref (He.ga K n)) (.type "ValueError") = some true) &&
  ns.all fun m => decide (PySem.W.kitOne K (.ref (He.ga K n)) (.ref (He.ga K m)) = some (decide (n = m)))))
theorem ext_of {K : PySem.W.Frag} {mg : Str → Option Value} {ns : List Str} (h : extB K ns = true) (hD : mg "DrawError" = some (.ref (He.ga K "DrawError"))) (hm : ∀ n ∈ ns, mg n = some (.ref (He.ga K n))) : ExT K mg ns := by
  unfold extB at h
  simp only [List.all_eq_true, Bool.and_eq_true, decide_eq_true_eq] at h
  exact ⟨hD, hm, fun n hn => excC_of (h n hn).1, fun n hn => (h n hn).2.1, fun n hn => (h n hn).2.2.1, fun n hn m hm => (h n hn).2.2.2 m hm⟩
theorem exR_of {K : PySem.W.Frag} {mg : Str → Option Value} {x : Str} (m : mg x = some (.ref (He.ga K x))) (c : (He.Fa.exc x).ok K = true) : ExR K mg x := by
  obtain ⟨h1, h2, h3, h4⟩ := He.exc_ok c
  exact ⟨m, h1, h2, h3, h4⟩
abbrev cls3 : List (Str × V) := [("NoEnd", .int 0), ("NoDeed", .int 1), ("NoText", .int 2)]
abbrev dcls3 : List (Str × PyData) := [("NoEnd", .int 0), ("NoDeed", .int 1), ("NoText", .int 2)]
theorem dcls3_ok {K : PySem.W.Frag} : ∀ n d, (n, d) ∈ dcls3 → ∃ v, (n, v) ∈ cls3 ∧ ∀ G, Dp K G v d := by
  intro n d h
  simp only [dcls3, List.mem_cons, Prod.mk.injEq, List.mem_nil_iff, or_false] at h
  rcases h with ⟨rfl, rfl⟩ | ⟨rfl, rfl⟩ | ⟨rfl, rfl⟩
  · exact ⟨.int 0, by simp, fun _ => .int _⟩
  · exact ⟨.int 1, by simp, fun _ => .int _⟩
  · exact ⟨.int 2, by simp, fun _ => .int _⟩
section
variable {X : Cx} {x q : Str} {sg : Scope} {g : Addr} {cdg : Value} {j1 j2 j3 j4 j5 j6 j7 j8 : Nat} {p1 p2 p3 p4 p5 p6 p7 p8 p9 p10 p11 p12 p13 p14 p15 p16 p17 p18 p19 p20 p21 p22 p23 p24 p25 p26 p27 p28 p29 p30 p31 p32 p33 p34 p35 p36 p37 p38 p39 p40 p41 p42 p43 p44 p45 p46 p47 p48 p49 p50 p51 p52 : Pos}
abbrev N4 : List Str := ["deed", "e", "found", "kinds"]
abbrev toldZ (X : Cx) (N : List Str) (x : Str) (sg : Scope) (g : Addr) (cdg : Value) (s : Shared) (H : Hp) : Cx := (cxOf C8.CX0 X.prog X.w X.K X.mg X.base N x sg g cdg X.A X.stack s H C8.E0).nox
theorem told_as_gives {kt1 : Nat} {b₀ : Stmt} {suite : List Stmt} {ns : List Str} {cs : List (Str × V)} (ET : ExT X.K X.mg ns) (hcs : ∀ n v, (n, v) ∈ cs → n ∈ ns) 
    (le : sg.names.lookup ("e" : Str) = some .local) (lf_ : sg.names.lookup ("found" : Str) = some .local) (gD : sg.names.lookup ("DrawError" : Str) = some .globalImplicit)
    (hS : ∀ (s : Shared) (H : Hp) (a : Addr) (oe : Obj) (pn : List (Addr × Obj)) (n : Str) (v : V) (sg' : L2.St) (H' : Hp) (Dn : Ends), (n, v) ∈ cs → Zc (.ref (He.ga X.K n)) none oe → (∃ vs, oe.data = .fields vs) → sg'.length = 4 →
      (∀ H2 p sg2, Same H' H2 → H' p = none → H2 p = some (.tup [.str "refused", v]) → sg2.length = 4 → sg2[2]? = some (some (.ref p)) → Dn.nx sg2 H2) → ∃ t', PSs ((toldZ X N4 x sg g cdg s H).suite a ((a, oe) :: pn)) (b₀ :: suite) t' ∧ t' Dn (sg'.set 1 (some (.ref a))) H') :
    GivesTo X N4 x sg g cdg
      [.Try [.Assign [.Name "found" p1] (.Tuple [.Constant (.str "told") j1 p2, .Call (.Name "deed" p3) [] [] p4] kt1 p5) p6]
        [.ExceptHandler (some (.Name "DrawError" p7)) (some "e") (b₀ :: suite) p45] [] [] p50,
       .Return (some (.Name "found" p51)) p52] "deed" q (TTold X.K cs) := by
  intro f c' s H Q tl act hc ⟨Ec, Q', ht, hE, hQ⟩
  have nd : N4.Nodup := by decide +kernel
  refine ⟨_, pss_cons (ps_try_as (X := toldZ X N4 x sg g cdg s H) (i := 1) (c := .ref (He.ga X.K "DrawError"))
      (tb := fun W D sg H => ∃ Ech : XK, (∀ cls d sg' H', Ech cls d H' → sg'.length = 4 → W cls d sg' H') ∧ sg[0]? = some (some (.ref f)) ∧ H c' = some (CodeO c' q) ∧ ∃ Q1, tl Ech H Q1 ∧ ∀ v H1, Q1 v H1 → ∀ p, H1 p = none → D.nx (sg.set 2 (some (.ref p))) (upd H1 p (.tup [.str "told", v])))
      (ts := fun a cls d Dn sg2 H2 => ∀ oe pn, Zc cls d oe → (∃ vs, oe.data = .fields vs) → ∃ t', PSs ((toldZ X N4 x sg g cdg s H).suite a ((a, oe) :: pn)) (b₀ :: suite) t' ∧ t' Dn sg2 H2)
      rfl rfl nd rfl le ⟨gD, by decide, .inl ET.mD⟩ takes0 (fun W pn xe tk _ => ?_) (fun a oe cls d pn hz hf => ⟨fun pins s2 sg2 H2 Dn I w => ?_⟩)) (pss_one (ps_ret (pe_var (i := 2) rfl (.inl lf_)))), ?_⟩
  · refine ⟨fun pins s' sg1 H' D I ⟨Ech, hW, h1, h2, Q1, h3, h4⟩ => ?_⟩
    have hp := PE.weaker (act (fun c d sg H => sg.length = 4 → W c d sg H) pn xe Ech p3 p4 (takes_len tk) (fun cls d sg' H' e l => hW cls d sg' H' e l))
    refine (pss_one (ps_set (i := 2) nd rfl (.inl lf_) (pe_tup (pa_cons pe_str (pa_cons hp pa_nil))))).run pins s' sg1 H' D I ?_
    refine ⟨Q1, ⟨h1, h2, h3⟩, fun v H1 qv => ?_⟩
    exact ⟨by rw [sizeLine_eq]; simp, fun p hp => h4 v H1 qv p hp⟩
  · obtain ⟨t', pt, qt⟩ := w oe pn hz hf
    exact pt.run pins s2 sg2 H2 Dn I qt
  · refine ⟨Ec, fun cls d sg' H' he hl => ?_, rfl, hc, Q', ht, fun v H1 qv p hp => ⟨_, rfl, hQ v H1 qv p hp⟩⟩
    obtain ⟨rfl, n, v, hnv, rfl, hq⟩ := hE _ _ _ he
    refine ⟨true, ET.x n (hcs n v hnv), fun _ a na oe pn hz hf => ?_, fun z => nomatch z⟩
    refine hS s H a oe pn n v sg' H' _ hnv hz hf hl fun H2 p sg2 sm np hp hl2 h2 => ?_
    refine ⟨.ref p, ?_, hq H2 p sm np hp⟩
    match sg2, hl2, h2 with
    | [s0, s1, s2, s3], _, h2 => exact h2
theorem told_only_gives {kt1 : Nat} {b₀ : Stmt} {suite : List Stmt} {ns : List Str} {cs : List (Str × V)} (ET : ExT X.K X.mg ns) (hcs : ∀ n v, (n, v) ∈ cs → n ∈ ns) 
    (lf_ : sg.names.lookup ("found" : Str) = some .local) (gD : sg.names.lookup ("DrawError" : Str) = some .globalImplicit)
    (hS : ∀ (s : Shared) (H : Hp) (a : Addr) (oe : Obj) (pn : List (Addr × Obj)) (n : Str) (v : V) (sg' : L2.St) (H' : Hp) (Dn : Ends), (n, v) ∈ cs → sg'.length = 2 →
      (∀ H2 p sg2, Same H' H2 → H' p = none → H2 p = some (.tup [.str "refused", v]) → sg2[1]? = some (some (.ref p)) → Dn.nx sg2 H2) → ∃ t', PSs ((toldZ X ["deed", "found"] x sg g cdg s H).suite a ((a, oe) :: pn)) (b₀ :: suite) t' ∧ t' Dn sg' H') :
    GivesTo X ["deed", "found"] x sg g cdg
      [.Try [.Assign [.Name "found" p1] (.Tuple [.Constant (.str "told") j1 p2, .Call (.Name "deed" p3) [] [] p4] kt1 p5) p6]
        [.ExceptHandler (some (.Name "DrawError" p7)) none (b₀ :: suite) p45] [] [] p50,
       .Return (some (.Name "found" p51)) p52] "deed" q (TTold X.K cs) := by
  intro f c' s H Q tl act hc ⟨Ec, Q', ht, hE, hQ⟩
  have nd : (["deed", "found"] : List Str).Nodup := by decide +kernel
  refine ⟨_, pss_cons (ps_try_only (X := toldZ X ["deed", "found"] x sg g cdg s H) (c := .ref (He.ga X.K "DrawError"))
      (tb := fun W D sg H => ∃ Ech : XK, (∀ cls d sg' H', Ech cls d H' → sg'.length = 2 → W cls d sg' H') ∧ sg[0]? = some (some (.ref f)) ∧ H c' = some (CodeO c' q) ∧ ∃ Q1, tl Ech H Q1 ∧ ∀ v H1, Q1 v H1 → ∀ p, H1 p = none → D.nx (sg.set 1 (some (.ref p))) (upd H1 p (.tup [.str "told", v])))
      (ts := fun a cls d Dn sg2 H2 => ∀ oe pn, Zc cls d oe → (∃ vs, oe.data = .fields vs) → ∃ t', PSs ((toldZ X ["deed", "found"] x sg g cdg s H).suite a ((a, oe) :: pn)) (b₀ :: suite) t' ∧ t' Dn sg2 H2)
      rfl rfl ⟨gD, by decide, .inl ET.mD⟩ takes0 (fun W pn xe tk _ => ?_) (fun a oe cls d pn hz hf => ⟨fun pins s2 sg2 H2 Dn I w => ?_⟩)) (pss_one (ps_ret (pe_var (i := 1) rfl (.inl lf_)))), ?_⟩
  · refine ⟨fun pins s' sg1 H' D I ⟨Ech, hW, h1, h2, Q1, h3, h4⟩ => ?_⟩
    have hp := PE.weaker (act (fun c d sg H => sg.length = 2 → W c d sg H) pn xe Ech p3 p4 (takes_len tk) (fun cls d sg' H' e l => hW cls d sg' H' e l))
    refine (pss_one (ps_set (i := 1) nd rfl (.inl lf_) (pe_tup (pa_cons pe_str (pa_cons hp pa_nil))))).run pins s' sg1 H' D I ?_
    refine ⟨Q1, ⟨h1, h2, h3⟩, fun v H1 qv => ?_⟩
    exact ⟨by rw [sizeLine_eq]; simp, fun p hp => h4 v H1 qv p hp⟩
  · obtain ⟨t', pt, qt⟩ := w oe pn hz hf
    exact pt.run pins s2 sg2 H2 Dn I qt
  · refine ⟨Ec, fun cls d sg' H' he hl => ?_, rfl, hc, Q', ht, fun v H1 qv p hp => ⟨_, rfl, hQ v H1 qv p hp⟩⟩
    obtain ⟨rfl, n, v, hnv, rfl, hq⟩ := hE _ _ _ he
    refine ⟨true, ET.x n (hcs n v hnv), fun _ a na oe pn hz hf => ?_, fun z => nomatch z⟩
    exact hS s H a oe pn n v sg' H' _ hnv hl fun H2 p sg2 sm np hp h2 => ⟨.ref p, h2, hq H2 p sm np hp⟩
theorem told3_gives {kt1 kt2 kt3 : Nat} {k : Nat} (ET : ExT X.K X.mg ["NoEnd", "NoDeed", "NoText"]) (hI : X.mg "isinstance" = none) (hV : X.mg "ValueError" = none) (hr : Room (k + 1) X.A)
    (le : sg.names.lookup ("e" : Str) = some .local) (lf_ : sg.names.lookup ("found" : Str) = some .local) (lk : sg.names.lookup ("kinds" : Str) = some .local)
    (gD : sg.names.lookup ("DrawError" : Str) = some .globalImplicit) (g0 : sg.names.lookup ("NoEnd" : Str) = some .globalImplicit) (g1 : sg.names.lookup ("NoDeed" : Str) = some .globalImplicit) (g2 : sg.names.lookup ("NoText" : Str) = some .globalImplicit) (gi : sg.names.lookup ("isinstance" : Str) = some .globalImplicit) (gv : sg.names.lookup ("ValueError" : Str) = some .globalImplicit)
    (hl1 : (p30.endLine == p31.line) = true) (hl2 : (p38.endLine == p39.line) = true) :
    GivesTo X N4 x sg g cdg
      [.Try [.Assign [.Name "found" p1] (.Tuple [.Constant (.str "told") j1 p2, .Call (.Name "deed" p3) [] [] p4] kt1 p5) p6]
        [.ExceptHandler (some (.Name "DrawError" p7)) (some "e")
          [.Assign [.Name "kinds" p8] (.List [.Call (.Name "isinstance" p9) [.Name "e" p10, .Name "NoEnd" p11] [] p12, .Call (.Name "isinstance" p13) [.Name "e" p14, .Name "NoDeed" p15] [] p16, .Call (.Name "isinstance" p17) [.Name "e" p18, .Name "NoText" p19] [] p20] p21) p22,
           .Assign [.Name "found" p23] (.Tuple [.Constant (.str "refused") j2 p24, .UnaryOp .USub (.Constant (.int 1) j3 p25) p26] kt2 p27) p28,
           .If (.BoolOp .And [.Call (.Name "isinstance" p40) [.Name "e" p41, .Name "ValueError" p42] [] p43, .Compare (.Call (.Attribute (.Name "kinds" p29) "count" p30) [.Constant (.bool true) j4 p32] [] p31) [.Eq] [.Constant (.int 1) j5 p33] p34] p44)
             [.Assign [.Name "found" p35] (.Tuple [.Constant (.str "refused") j6 p36, .Call (.Attribute (.Name "kinds" p37) "index" p38) [.Constant (.bool true) j7 p46] [] p39] kt3 p47) p48] [] p49] p45] [] [] p50,
       .Return (some (.Name "found" p51)) p52] "deed" q (TTold X.K cls3) := by
  refine told_as_gives ET (fun n v h => ?_) le lf_ gD fun s H a oe pn n v sg' H' Dn hnv hz hf hl hD => ?_
  · simp only [cls3, List.mem_cons, Prod.mk.injEq, List.mem_nil_iff, or_false] at h
    rcases h with ⟨rfl, _⟩ | ⟨rfl, _⟩ | ⟨rfl, _⟩ <;> simp
  have nd : N4.Nodup := by decide +kernel
  have hn : n ∈ (["NoEnd", "NoDeed", "NoText"] : List Str) := by
    simp only [cls3, List.mem_cons, Prod.mk.injEq, List.mem_nil_iff, or_false] at hnv
    rcases hnv with ⟨rfl, _⟩ | ⟨rfl, _⟩ | ⟨rfl, _⟩ <;> simp
  have hu : ((toldZ X N4 x sg g cdg s H).suite a ((a, oe) :: pn)).A.units + 65 < cLine := by
    have h0 := units65 (hr.deeper (envOfC x sg s.heap.objs.size g cdg))
    exact h0
  have bi : bootBuiltins "isinstance" = some (.builtin "isinstance") := by decide +kernel
  have bv : bootBuiltins "ValueError" = some (.type "ValueError") := by decide +kernel
  have isI : ∀ {y : Str} {q1 q2 q3 q4 : Pos} (gy : sg.names.lookup y = some .globalImplicit) (hm : X.mg y = some (.ref (He.ga X.K y))) (hdb : (y == ("__debug__" : Str)) = false),
      PE ((toldZ X N4 x sg g cdg s H).suite a ((a, oe) :: pn)) (.Call (.Name "isinstance" q1) [.Name "e" q2, .Name y q3] [] q4) _ := fun {y q1 q2 q3 q4} gy hm hdb =>
    pe_callB (call_isE (X := toldZ X N4 x sg g cdg s H) (ET.c n hn) hz hf) gi hI bi (pa_cons (pe_var (i := 1) rfl (.inl le)) (pa_cons (pe_glob gy hm (v := .ref (He.ga X.K y)) rfl hdb) pa_nil))
  refine ⟨_, pss_cons (ps_set (i := 3) nd rfl (.inl lk) (pe_lst (pa_cons (isI g0 (ET.m "NoEnd" (by simp)) (by decide)) (pa_cons (isI g1 (ET.m "NoDeed" (by simp)) (by decide)) (pa_cons (isI g2 (ET.m "NoText" (by simp)) (by decide)) pa_nil)))))
    (pss_cons (ps_set (i := 2) nd rfl (.inl lf_) (pe_tup (pa_cons pe_str (pa_cons (pe_un un_neg pe_int) pa_nil))))
    (pss_one (ps_if (PW.pt (pw_and (pt_val (pe_callB (call_isE (X := toldZ X N4 x sg g cdg s H) (ET.c n hn) hz hf) gi hI bi (pa_cons (pe_var (i := 1) rfl (.inl le)) (pa_cons (pe_bltn gv hV bv (v := .ty "ValueError") rfl) pa_nil))))
      (pw_and1 (pt_cmpR op_eq (pe_bm PySem.F.plainAttrs_list PySem.F.slot_list_count PySem.F.type_list_count (mt_countD hu) (pe_var (i := 3) rfl (.inl lk)) (pa_cons pe_bl pa_nil) rfl rfl hl1) pe_int (nomark _)))))
      (pss_one (ps_set (i := 2) nd rfl (.inl lf_) (pe_tup (pa_cons pe_str (pa_cons (pe_bm PySem.F.plainAttrs_list PySem.F.slot_list_index PySem.F.type_list_index (mt_indexD hu) (pe_var (i := 3) rfl (.inl lk)) (pa_cons pe_bl pa_nil) rfl rfl hl2) pa_nil))))) pss_nil))), ?_⟩
  match sg', hl with
  | [s0, s1, s2, s3], _ =>
  refine ⟨.ref a, rfl, .ref (He.ga X.K "NoEnd"), .ref (He.ga X.K "NoEnd"), _, rfl, fun u e => e, ET.i n hn "NoEnd" (by simp), ?_⟩
  refine ⟨.ref a, rfl, .ref (He.ga X.K "NoDeed"), .ref (He.ga X.K "NoDeed"), _, rfl, fun u e => e, ET.i n hn "NoDeed" (by simp), ?_⟩
  refine ⟨.ref a, rfl, .ref (He.ga X.K "NoText"), .ref (He.ga X.K "NoText"), _, rfl, fun u e => e, ET.i n hn "NoText" (by simp), ?_⟩
  have hb : (decide (n = "NoEnd") = true ∧ decide (n = "NoDeed") = false ∧ decide (n = "NoText") = false ∧ v = .int 0) ∨ (decide (n = "NoEnd") = false ∧ decide (n = "NoDeed") = true ∧ decide (n = "NoText") = false ∧ v = .int 1) ∨ (decide (n = "NoEnd") = false ∧ decide (n = "NoDeed") = false ∧ decide (n = "NoText") = true ∧ v = .int 2) := by
    simp only [cls3, List.mem_cons, Prod.mk.injEq, List.mem_nil_iff, or_false] at hnv
    rcases hnv with ⟨rfl, rfl⟩ | ⟨rfl, rfl⟩ | ⟨rfl, rfl⟩
    · exact .inl ⟨by decide +kernel, by decide +kernel, by decide +kernel, rfl⟩
    · exact .inr (.inl ⟨by decide +kernel, by decide +kernel, by decide +kernel, rfl⟩)
    · exact .inr (.inr ⟨by decide +kernel, by decide +kernel, by decide +kernel, rfl⟩)
  generalize decide (n = "NoEnd") = b0 at hb ⊢
  generalize decide (n = "NoDeed") = b1 at hb ⊢
  generalize decide (n = "NoText") = b2 at hb ⊢
  refine ⟨by rw [sizeLine_eq]; simp, fun p1 hp1 => ?_⟩
  refine ⟨1, rfl, ⟨by rw [sizeLine_eq]; simp, fun p2 hp2 => ?_⟩⟩
  have n12 : p1 ≠ p2 := fun z => by rw [← z, upd_same] at hp2; cases hp2
  have s1' : Same H' (upd H' p1 (.lst [.bl b0, .bl b1, .bl b2])) := fun b o e => by rw [upd_ne (ne_of_none e hp1)]; exact e
  have s2' : Same (upd H' p1 (.lst [.bl b0, .bl b1, .bl b2])) (upd (upd H' p1 (.lst [.bl b0, .bl b1, .bl b2])) p2 (.tup [.str "refused", .int (-1)])) := fun b o e => by rw [upd_ne (ne_of_none e hp2)]; exact e
  have hk : (upd (upd H' p1 (.lst [.bl b0, .bl b1, .bl b2])) p2 (.tup [.str "refused", .int (-1)])) p1 = some (.lst [.bl b0, .bl b1, .bl b2]) := by rw [upd_ne n12, upd_same]
  have dk : Dp X.K (upd (upd H' p1 (.lst [.bl b0, .bl b1, .bl b2])) p2 (.tup [.str "refused", .int (-1)])) (.ref p1) (.list [.bool b0, .bool b1, .bool b2]) := .lst (SqL.of hk) (.cons (.bl _) (.cons (.bl _) (.cons (.bl _) .nil)))
  refine ⟨.ref a, rfl, .ty "ValueError", .type "ValueError", true, rfl, fun u e => e, ET.v n hn, ?_⟩
  refine ⟨true, rfl, ?_⟩
  refine iteT ?_
  have sh : SeqAt.shaped (.list [.bool b0, .bool b1, .bool b2]) = true := by rcases hb with ⟨rfl, rfl, rfl, _⟩ | ⟨rfl, rfl, rfl, _⟩ | ⟨rfl, rfl, rfl, _⟩ <;> decide +kernel
  have ct : cntD [.bool b0, .bool b1, .bool b2] (.bool true) = 1 := by rcases hb with ⟨rfl, rfl, rfl, _⟩ | ⟨rfl, rfl, rfl, _⟩ | ⟨rfl, rfl, rfl, _⟩ <;> decide +kernel
  refine ⟨.ref p1, rfl, .inl ⟨rfl, _, SqL.of hk⟩, p1, .bl true, .bool true, _, rfl, rfl, dk, .bl _, sh, rfl, ?_⟩
  rw [ct]
  refine ⟨rfl, true, rfl, ?_⟩
  refine iteT ?_
  have ix : ∃ j : Nat, v = .int (j : Nat) ∧ ([.bool b0, .bool b1, .bool b2] : List PyData)[j]? = some (.bool true) ∧ ∀ (m : Nat) (z' : PyData), m < j → ([.bool b0, .bool b1, .bool b2] : List PyData)[m]? = some z' → PyData.eqv z' (.bool true) = false := by
    rcases hb with ⟨rfl, rfl, rfl, rfl⟩ | ⟨rfl, rfl, rfl, rfl⟩ | ⟨rfl, rfl, rfl, rfl⟩
    · exact ⟨0, rfl, rfl, fun m z' h => absurd h (by omega)⟩
    · refine ⟨1, rfl, rfl, fun m z' h e => ?_⟩
      match m, h, e with
      | 0, _, e => cases e; decide +kernel
    · refine ⟨2, rfl, rfl, fun m z' h e => ?_⟩
      match m, h, e with
      | 0, _, e => cases e; decide +kernel
      | 1, _, e => cases e; decide +kernel
  obtain ⟨j, rfl, e1, e2⟩ := ix
  refine ⟨.ref p1, rfl, .inl ⟨rfl, _, SqL.of hk⟩, p1, .bl true, .bool true, _, j, .bool true, rfl, rfl, dk, .bl _, sh, rfl, e1, rfl, e2, ⟨by rw [sizeLine_eq]; simp, fun p3 hp3 => ?_⟩⟩
  have s3 : Same (upd (upd H' p1 (.lst [.bl b0, .bl b1, .bl b2])) p2 (.tup [.str "refused", .int (-1)])) (upd (upd (upd H' p1 (.lst [.bl b0, .bl b1, .bl b2])) p2 (.tup [.str "refused", .int (-1)])) p3 (.tup [.str "refused", .int (j : Nat)])) := fun b o e => by rw [upd_ne (ne_of_none e hp3)]; exact e
  exact hD _ p3 _ ((s1'.trans s2').trans s3) ((s1'.trans s2').free hp3) upd_same rfl rfl
theorem told2_gives {kt1 kt2 : Nat} {ns : List Str} {cs : List (Str × V)} (ET : ExT X.K X.mg ns) (hcs : ∀ n v, (n, v) ∈ cs → n ∈ ns ∧ v = .non)
    (lf_ : sg.names.lookup ("found" : Str) = some .local) (gD : sg.names.lookup ("DrawError" : Str) = some .globalImplicit) :
    GivesTo X ["deed", "found"] x sg g cdg
      [.Try [.Assign [.Name "found" p1] (.Tuple [.Constant (.str "told") j1 p2, .Call (.Name "deed" p3) [] [] p4] kt1 p5) p6]
        [.ExceptHandler (some (.Name "DrawError" p7)) none [.Assign [.Name "found" p8] (.Tuple [.Constant (.str "refused") j2 p9, .Constant .none j3 p10] kt2 p11) p12] p45] [] [] p50,
       .Return (some (.Name "found" p51)) p52] "deed" q (TTold X.K cs) := by
  refine told_only_gives ET (fun n v h => (hcs n v h).1) lf_ gD fun s H a oe pn n v sg' H' Dn hnv hl hD => ?_
  have nd : (["deed", "found"] : List Str).Nodup := by decide +kernel
  refine ⟨_, pss_one (ps_set (i := 1) nd rfl (.inl lf_) (pe_tup (pa_cons pe_str (pa_cons pe_non pa_nil)))), ?_⟩
  match sg', hl with
  | [s0, s1], _ =>
  obtain ⟨_, rfl⟩ := hcs n v hnv
  refine ⟨by rw [sizeLine_eq]; simp, fun p hp => ?_⟩
  exact hD _ p _ (fun b o e => by rw [upd_ne (ne_of_none e hp)]; exact e) hp upd_same rfl
end
end Fd
end
section
set_option Elab.async false
set_option linter.all false
set_option maxRecDepth 100000
set_option autoImplicit false
set_option maxHeartbeats 4000000
/-! FdR: sorted(d.items()), d a dict whose keys are tuples. -/
namespace Fd
open PySem PySem.Spec PyProof.Rows L2 LamX
open PySem.F PySem.W
open L2.DX (itemsO itemsO_ok takeT)
section
variable {X : Cx}
def tItemsN (td : TE) : TE := fun σ H Q => td σ H fun x H1 => ∃ a xs, x = V.ref a ∧ H1 a = some (DcO a xs) ∧ ∀ p, H1 p = none → Q (.ref p) (upd H1 p (itemsO p a))
theorem pe_itemsN {o : Expr} {apos cpos : Pos} {td : TE} (ho : PE X o td) (hbase : attributeBase o "items" X.env (eval o X.env) = eval o X.env := by rfl) (hline : (apos.endLine == cpos.line) = true := by rfl) : PE X (.Call (.Attribute o "items" apos) [] [] cpos) (tItemsN td) := by
  refine ⟨fun pins s σ H Q I h => ?_⟩
  refine wpAny_Call_method (T := "dict") (id := "dict.items") hbase rfl hline F.plainAttrs_dict F.slot_dict_items F.type_dict_items (thn (ho.run pins s σ H _ I h) fun u s1 ⟨x, H1, I1, rx, a, xs, ex, ha, q⟩ => ?_)
  subst ex
  obtain rfl : u = Value.ref a := rx
  obtain ⟨⟨lo, o, es, ep, h2, h3, h4, h5⟩, _⟩ := (show ObjOk X.prog X.w H1 s1.heap a (DcO a xs) from I1.hok a _ ha)
  refine ⟨⟨o, h2, h3.1⟩, fun b q => ?_, ?_⟩
  · cases q
    exact ⟨o, h2, h3.2.1⟩
  show wpAny _ _ (callWith cpos (.builtin "dict.items") [.ref a] [] []) _ X.xe s1
  refine Calls.callWith_builtin rfl (PySem.evalArgs_none (DT.callItems (es := es) (ep := ep) lo ⟨o, h2, h3, h4⟩ ?_))
  exact ⟨.ref s1.heap.objs.size, upd H1 s1.heap.objs.size (itemsO s1.heap.objs.size a), I1.laid (t' := s1.toks) (fun b u e => Heap.get?_push_of_some _ e) (Nat.le_refl _) (itemsO_ok (Heap.get?_push_size _ rfl)), rfl, q _ (I1.hok.fresh (Nat.le_refl _))⟩
def rSortI (K : PySem.W.Frag) : List V → Hp → VK → Prop := fun vs H Q => ∃ (p a : Addr) (xs : List (NestedKey × Addr × Value)) (us : List V) (kd vd ds : List PyData), vs = [.ref p] ∧ H p = some (itemsO p a) ∧ H a = some (DcO a xs) ∧ Paired (fun x u => RelV u x.2.2) xs us ∧
  DpAll K H (xs.map fun x => V.ref x.2.1) kd ∧ DpAll K H us vd ∧ ds = zipD kd vd ∧ xs.length ≤ sizeLine ∧ AllAlike ds ∧ Sortable ds ∧ (∀ d ∈ ds, d.depth ≤ 60) ∧
  ∀ (H2 : Hp) (l : Addr) (as : List Addr), as.length = xs.length → as.Nodup → (∀ b ∈ as, H b = none) → H l = none → l ∉ as → Same H H2 →
    (∀ (j : Nat) (b : Addr), as[j]? = some b → ∃ x u, xs[j]? = some x ∧ us[j]? = some u ∧ H2 b = some (.tup [.ref x.2.1, u])) →
    H2 l = some (.lst ((((as.map V.ref).zip ds).mergeSort (dataLe false fun q : V × PyData => q.2)).map (·.1))) → Q (.ref l) H2
theorem vals_as : ∀ as : List Addr, Vals (as.map V.ref) (as.map Value.ref)
  | [] => .nil
  | a :: as => .cons rfl (vals_as as)
theorem pairedAt {A B : Type} {R : A → B → Prop} : ∀ {l : List A} {m : List B} {j : Nat} {x : A}, Paired R l m → l[j]? = some x → ∃ y, m[j]? = some y ∧ R x y
  | _, _, _, _, .nil, e => by simp at e
  | _, _, 0, _, .cons r _, e => by simp at e; subst e; exact ⟨_, rfl, r⟩
  | _, _, j + 1, x, .cons _ t, e => by
    obtain ⟨y, h1, h2⟩ := pairedAt (j := j) (x := x) t (by simpa using e)
    exact ⟨y, by simpa using h1, h2⟩
theorem dpAll_at {K : PySem.W.Frag} {H : Hp} : ∀ {ds : List PyData} {vs : List V}, ds.length = vs.length → (∀ (j : Nat) (v : V) (d : PyData), vs[j]? = some v → ds[j]? = some d → Dp K H v d) → DpAll K H vs ds
  | [], [], _, _ => .nil
  | [], _ :: _, h, _ => by simp at h
  | _ :: _, [], h, _ => by simp at h
  | d :: ds, v :: vs, h, k => .cons (k 0 v d rfl rfl) (dpAll_at (by simpa using h) fun j v' d' a b => k (j + 1) v' d' (by simpa using a) (by simpa using b))
theorem cr_sortI (hc : X.calm = true) (hu : X.A.units + 65 < cLine) : CallR X (.builtin "sorted") (rSortI X.K) := by
  intro pins s σ H vs us' Q I r h
  obtain ⟨p, a, xs, us, kd, vd, ds, rfl, hp, ha, pr, hkd, hvd, eds, hz, hal, hk, hdep, q⟩ := h
  rw [Vals.ref1 r]
  have view : s.heap.IsItemsView p a := (show ObjOk X.prog X.w H s.heap p (itemsO p a) from I.hok p _ hp).1
  obtain ⟨⟨lo, o, es, ep, h2, h3, h4, h5⟩, _⟩ := (show ObjOk X.prog X.w H s.heap a (DcO a xs) from I.hok a _ ha)
  have hes : es.size = xs.length := by rw [← Array.length_toList, h5, List.length_map]
  refine Calls.call_function_entry kind_sorted plain_sorted entry_sorted (args_sorted1 _) ?_
  unfold Builtin.«sorted»
  refine wpAny_bind (m := checkCount "sorted" 1 1 _) (wpAny_pure ?_)
  refine wpAny_bind (dil_collect (A := X.A.in1) (es := es) (ep := ep) (I.ok.hd hc) view ⟨o, h2, h3, h4⟩ (by omega) fun h' tk as hk1 hl1 hG => ?_)
  have I1 : Inv X pins σ H { s with heap := h', toks := tk } := I.kept hk1
  have hln : as.length = xs.length := by omega
  have lu : xs.length = us.length := paired_len pr
  have nd : as.Nodup := List.Pairwise.imp (fun h => Nat.ne_of_lt h) hG.rise
  have hat : ∀ (j : Nat) (b : Addr), as[j]? = some b → ∃ x u, xs[j]? = some x ∧ us[j]? = some u ∧ RelV u x.2.2 ∧ h'.get? b = some { cls := .type "tuple", data := .seq #[.ref x.2.1, x.2.2] } := fun j b hj => by
    obtain ⟨hj', e⟩ := hG.pairs j b hj
    have e2 : es.toList[j]? = some es[j] := by simp [hj']
    rw [h5, List.getElem?_map] at e2
    cases qx : xs[j]? with
    | none => rw [qx] at e2; cases e2
    | some x =>
      rw [qx] at e2
      simp only [Option.map_some, Option.some.injEq] at e2
      obtain ⟨u, hu1, hu2⟩ := pairedAt pr qx
      refine ⟨x, u, rfl, hu1, hu2, ?_⟩
      rw [e, ← e2]
  have big : ∀ b ∈ as, s.heap.objs.size ≤ b := fun b hb => Nat.le_of_lt (hG.above b hb)
  obtain ⟨H2, I2, sm, tk2⟩ := takeT (P := fun b vs => ∃ (j : Nat) (x : NestedKey × Addr × Value) (u : V), as[j]? = some b ∧ xs[j]? = some x ∧ us[j]? = some u ∧ vs = [.ref x.2.1, u]) I as H I1 nd fun b hb => by
    obtain ⟨j, hj⟩ := List.mem_iff_getElem?.mp hb
    obtain ⟨x, u, hx, hu1, ru, hget⟩ := hat j b hj
    exact ⟨big b hb, I.hok.fresh (big b hb), _, ⟨j, x, u, hj, hx, hu1, rfl⟩, fun H3 => ⟨by rw [sizeLine_eq]; simp, [.ref x.2.1, x.2.2], .cons rfl (.cons ru .nil), _, hget, rfl, 0, rfl⟩⟩
  have tat : ∀ (j : Nat) (b : Addr), as[j]? = some b → ∃ x u, xs[j]? = some x ∧ us[j]? = some u ∧ H2 b = some (.tup [.ref x.2.1, u]) := fun j b hj => by
    obtain ⟨vs, ⟨j', x, u, hj', hx, hu1, e⟩, hb⟩ := tk2 b (List.mem_of_getElem? hj)
    have ej : j' = j := by
      have l1 := (List.getElem?_eq_some_iff.mp hj').1
      exact (List.getElem?_inj l1 nd).mp (hj'.trans hj.symm)
    subst ej e
    exact ⟨x, u, hx, hu1, hb⟩
  have lk := hkd.len
  have lv := hvd.len
  rw [List.length_map] at lk
  have ld : ds.length = as.length := by rw [eds, zipD_length]; omega
  have hd : DpAll X.K H2 (as.map V.ref) ds := by
    refine dpAll_at (by rw [List.length_map]; exact ld) fun j v d hv hdj => ?_
    rw [List.getElem?_map] at hv
    cases qa : as[j]? with
    | none => rw [qa] at hv; cases hv
    | some b =>
      rw [qa] at hv
      cases hv
      obtain ⟨x, u, hx, hu1, hb⟩ := tat j b qa
      obtain ⟨d1, hd1, p1⟩ := hkd.at (i := j) (v := .ref x.2.1) (by rw [List.getElem?_map, hx]; rfl)
      obtain ⟨d2, hd2, p2⟩ := hvd.at hu1
      have ed : d = .tuple [d1, d2] := by
        rw [eds] at hdj
        unfold zipD at hdj
        rw [List.getElem?_map, (List.getElem?_zip_eq_some (z := (d1, d2))).mpr ⟨hd1, hd2⟩] at hdj
        exact (Option.some.inj hdj).symm
      subst ed
      exact .tup (SqT.of hb) (.cons (p1.up sm) (.cons (p2.up sm) .nil))
  have hxl := hd.len
  have ez : ((as.map V.ref).zip ds).map (·.2) = ds := zip_snd hxl
  have hzl : ((as.map V.ref).zip ds).length ≤ sizeLine := by rw [List.length_zip, List.length_map]; omega
  obtain ⟨e1, e2⟩ := each_rel I2 rfl (vals_as as) hd
  generalize hvs : (as.map Value.ref) = vs at *
  have hvl : vs.length ≤ sizeLine := by rw [← hvs, List.length_map]; omega
  have hoL : (h'.push (seqObj "list" vs.toArray 0)).get? h'.objs.size = some (seqObj "list" vs.toArray 0) := Heap.get?_push_size _ rfl
  have k2 : ∀ b u, h'.get? b = some u → (sortingHeap (h'.push (seqObj "list" vs.toArray 0)) h'.objs.size vs).get? b = some u := fun b u q => sortingHeap_old (Nat.ne_of_lt (Heap.lt_size q)) (Heap.get?_push_of_some _ q)
  have er' : EachIs (fun v (b : V × PyData) => ∃ as, Reads (sortingHeap (h'.push (seqObj "list" vs.toArray 0)) h'.objs.size vs) v b.2 as) vs ((as.map V.ref).zip ds) := e2.mono fun _ _ ⟨as, r⟩ => ⟨as, PyProof.Rows.Reads.keeps k2 r⟩
  have S := SortsAt.data (prog := X.prog) (w := X.w) (A := X.A.in1.in1) (s := { s with heap := sortingHeap (h'.push (seqObj "list" vs.toArray 0)) h'.objs.size vs, toks := tk }) (each_map (R := fun v d => ∃ as, Reads (sortingHeap (h'.push (seqObj "list" vs.toArray 0)) h'.objs.size vs) v d as) (fun q : V × PyData => q.2) er') (by rw [ez]; exact hal) (by rw [ez]; exact hk) (bound_map (fun z hz' => by
    have : z.2 ∈ ds := by rw [← ez]; exact List.mem_map.mpr ⟨z, hz', rfl⟩
    have := hdep _ this
    show X.A.units + 1 + 1 + _ < cLine
    omega))
  refine wpAny_bind (wpAny_newList ?_ hvl)
  refine wpAny_bind (wpAny_holding (wpAny_call_entry F.slot_list_sort ⟨_, hoL, rfl⟩ F.entry_list_sort (list_sort_vals (s := { s with heap := h'.push (seqObj "list" vs.toArray 0), toks := tk }) hoL S hvl ⟨_, rfl, ?_⟩) (args_list_sort _)))
  obtain ⟨c, hcc⟩ := sortedHeap_at (vs := vs) (out := (sortVals (dataKind (sortingHeap (h'.push (seqObj "list" vs.toArray 0)) h'.objs.size vs) (((as.map V.ref).zip ds).map fun q : V × PyData => q.2)) false vs vs).toArray) hoL
  have hout := sortVals_data false e1 er' (by rw [ez]; exact hal)
  have hlen : ((((as.map V.ref).zip ds).mergeSort (dataLe false fun q : V × PyData => q.2)).map (·.1)).length ≤ sizeLine := by rw [List.length_map, (List.mergeSort_perm _ _).length_eq]; exact hzl
  have f2 : H2 h'.objs.size = none := I2.hok.fresh (Nat.le_refl _)
  have f1 : H h'.objs.size = none := Same.free sm f2
  have na : h'.objs.size ∉ as := fun z => by
    obtain ⟨j, hj⟩ := List.mem_iff_getElem?.mp z
    obtain ⟨x, u, _, _, hb⟩ := tat j _ hj
    rw [f2] at hb
    cases hb
  refine wpAny_pure ⟨_, rfl, .ref h'.objs.size, upd H2 h'.objs.size (.lst ((((as.map V.ref).zip ds).mergeSort (dataLe false fun q : V × PyData => q.2)).map (·.1))), I2.laid (t' := tk) (fun b u q => ?_) (Nat.le_refl _) ⟨hlen, _, c, vals_each hout, hcc⟩, rfl,
    q _ _ as hln nd (fun b hb => I.hok.fresh (big b hb)) f1 na (fun b o e => by rw [upd_ne (ne_of_none (sm b o e) f2)]; exact sm b o e) (fun j b hj => by
      obtain ⟨x, u, hx, hu1, hb⟩ := tat j b hj
      exact ⟨x, u, hx, hu1, by rw [upd_ne (ne_of_none hb f2)]; exact hb⟩) upd_same⟩
  have hlt := Heap.lt_size q
  rw [sortedHeap_old (Nat.ne_of_lt hlt) (by rw [size_push']; exact Nat.lt_succ_of_lt hlt)]
  exact Heap.get?_push_of_some _ q
end
section
variable {X : Cx} {T : Tb} {E : XK} {a b c e : Expr} {es : List Expr} {ta tb tc : DE} {td : DN} {pos : Pos}
theorem enr_vals {K : PySem.W.Frag} {G : Hp} : ∀ {kvs : KVs} {xs : List (NestedKey × Addr × Value)}, Paired (EnR K G) kvs xs → ∃ us, Paired (fun (x : NestedKey × Addr × Value) u => RelV u x.2.2) xs us ∧ DpAll K G us (kvs.map (·.2)) ∧ DpAll K G (xs.map fun x => V.ref x.2.1) (kvs.map fun p => p.1.data)
  | _, _, .nil => ⟨[], .nil, .nil, .nil⟩
  | _, _, .cons ⟨_, h2, v, h3, h4⟩ t => by
    obtain ⟨us, p1, p2, p3⟩ := enr_vals t
    exact ⟨v :: us, .cons h3 p1, .cons h4 p2, .cons h2 p3⟩
def itemsD (kvs : KVs) : List PyData := kvs.map fun p => .tuple [p.1.data, p.2]
theorem itemsD_zip : ∀ kvs : KVs, itemsD kvs = zipD (kvs.map fun p => p.1.data) (kvs.map (·.2))
  | [] => rfl
  | p :: kvs => by
    have h := itemsD_zip kvs
    unfold itemsD zipD at h ⊢
    simp only [List.map_cons, List.zip_cons_cons, List.cons.injEq, true_and]
    exact h
/-- sorted(d.items()) -/
@[simp] def dSortIt (td : DN) : DA := fun r Q E => td r (fun kvs => AllAlike (itemsD kvs) ∧ Sortable (itemsD kvs) ∧ (∀ d ∈ itemsD kvs, d.depth ≤ 60) ∧ ∀ out : List PyData, out.Perm (itemsD kvs) → out.Pairwise (fun a b => dataLt b a = false) → Q out) E
theorem fn_sortIt {p apos cpos : Pos} (hc : X.calm = true) (hu : X.A.units + 65 < cLine) (hg : Gl X "sorted") (hm : X.mg "sorted" = none) (hv : bootBuiltins "sorted" = some (.builtin "sorted")) (ha : FD X T E e td)
    (hbase : attributeBase e "items" X.env (eval e X.env) = eval e X.env := by rfl) (hline : (apos.endLine == cpos.line) = true := by rfl)
    (he : starEach [.Call (.Attribute e "items" apos) [] [] cpos] X.env = (false, eval (.Call (.Attribute e "items" apos) [] [] cpos) X.env) :: starEach [] X.env := by rfl) (hpl : (backTo pos (starEach [] X.env)).any (·.1) = false := by rfl) : FN X T E (.Call (.Name "sorted" p) [.Call (.Attribute e "items" apos) [] [] cpos] [] pos) (dSortIt td) := by
  refine FN.mk' (pe_callB (cr_sortI hc hu) hg hm hv (pa_cons (pe_itemsN ha.pe hbase hline) pa_nil he) (by decide) (by decide) he hpl) fun sg H Q ⟨H0, G0, r, G, Qd, Ed, h, er, w, k, x⟩ => ?_
  refine ⟨H0, G0, r, G, _, Ed, h, er, w, fun kvs a u H1 G1 h1 hp ⟨xs, eu, pr, nd, hl, gd⟩ ⟨hal, hk, hdep, q⟩ => ?_, x⟩
  subst eu
  obtain ⟨us, q1, q2, q3⟩ := enr_vals pr
  refine ⟨a, xs, rfl, hp, fun v hv' => ?_⟩
  have z : HR T H1 G1 (upd H1 v (itemsO v a)) G1 := h1.laidO hv'
  have sv : Same G1 (upd H1 v (itemsO v a)) := z.sub
  refine ⟨v, a, xs, us, _, _, _, rfl, upd_same, by rw [upd_ne (ne_of_none hp hv')]; exact hp, q1, q3.up sv, q2.up sv, itemsD_zip kvs, by rw [← paired_len pr]; exact hl, hal, hk, hdep, fun H2 l as ln ndA nA nl la sm pat hl2 => ?_⟩
  have gl : G1 l = none := by
    cases qq : G1 l with
    | none => rfl
    | some u => rw [sv l u qq] at nl; cases nl
  have gA : ∀ b ∈ as, G1 b = none := fun b hb => by
    cases qq : G1 b with
    | none => rfl
    | some u => have := nA b hb; rw [sv b u qq] at this; cases this
  have tA : ∀ b ∈ as, ∃ vs, H2 b = some (.tup vs) := fun b hb => by
    obtain ⟨j, hj⟩ := List.mem_iff_getElem?.mp hb
    obtain ⟨x, u, _, _, e⟩ := pat j b hj
    exact ⟨_, e⟩
  let G2 : Hp := fun b => if b ∈ as then H2 b else G1 b
  have g2A : ∀ b ∈ as, G2 b = H2 b := fun b hb => if_pos hb
  have g2N : ∀ b, b ∉ as → G2 b = G1 b := fun b hb => if_neg hb
  have sg2 : Same G1 G2 := fun b o e => by
    have hb : b ∉ as := fun hb => by rw [gA b hb] at e; cases e
    rw [g2N b hb]; exact e
  have z2 : HR T (upd H1 v (itemsO v a)) G1 H2 G2 := by
    refine ⟨fun b o e => ?_, fun b ps e => ?_, z.tabs.ext sm, ExtN.of sm, sg2, fun b e => ?_⟩
    · by_cases hb : b ∈ as
      · rw [g2A b hb] at e; exact e
      · rw [g2N b hb] at e; exact sm b o (sv b o e)
    · by_cases hb : b ∈ as
      · rw [g2A b hb] at e
        obtain ⟨vs, e'⟩ := tA b hb
        rw [e'] at e
        cases e
      · rw [g2N b hb] at e; exact z.nt b ps e
    · by_cases hb : b ∈ as
      · exact .inr (NT.none (nA b hb))
      · rw [g2N b hb] at e; exact .inl e
  have p1 : DpAll X.K G2 (as.map V.ref) (itemsD kvs) := by
    refine dpAll_at (by rw [List.length_map, ln, ← paired_len pr]; simp [itemsD]) fun j v d hv hdj => ?_
    rw [List.getElem?_map] at hv
    cases qa : as[j]? with
    | none => rw [qa] at hv; cases hv
    | some b =>
      rw [qa] at hv
      cases hv
      obtain ⟨x, u, hx, hu1, hb⟩ := pat j b qa
      obtain ⟨d1, hd1, p1⟩ := q3.at (i := j) (v := .ref x.2.1) (by rw [List.getElem?_map, hx]; rfl)
      obtain ⟨d2, hd2, p2⟩ := q2.at hu1
      have ed : d = .tuple [d1, d2] := by
        rw [itemsD_zip] at hdj
        unfold zipD at hdj
        rw [List.getElem?_map, (List.getElem?_zip_eq_some (z := (d1, d2))).mpr ⟨hd1, hd2⟩] at hdj
        exact (Option.some.inj hdj).symm
      subst ed
      refine .tup (SqT.of ?_) (.cons (p1.up sg2) (.cons (p2.up sg2) .nil))
      rw [g2A b (List.mem_of_getElem? qa)]
      exact hb
  have ez : ((as.map V.ref).zip (itemsD kvs)).map (·.2) = itemsD kvs := zip_snd p1.len
  have TL := sortLe_total (listOrd itemOrd) false fun q : V × PyData => keyToks q.2
  have hpm := List.mergeSort_perm ((as.map V.ref).zip (itemsD kvs)) (dataLe false fun q : V × PyData => q.2)
  have hpw : (((as.map V.ref).zip (itemsD kvs)).mergeSort (dataLe false fun q : V × PyData => q.2)).Pairwise (fun a b => dataLe false (fun q : V × PyData => q.2) a b = true) := List.pairwise_mergeSort (fun a b c => TL.trans a b c) (fun a b => by rw [Bool.or_eq_true]; exact TL.total a b) _
  refine k _ l _ H2 G2 ((h1.trans z).trans z2) ((NT.none nl).back (h1.trans z).ext) hl2 (by rw [g2N l la]; exact gl) (dpAll_pairs fun z hz => dpAll_of_zip p1 z (hpm.mem_iff.mp hz)) (q _ ?_ ?_)
  · have := hpm.map (·.2)
    rw [ez] at this
    exact this
  · rw [List.pairwise_map]
    refine hpw.imp fun {a b} hab => ?_
    have : (!dataLt b.2 a.2) = true := hab
    simpa using this
end
end Fd
end
section
set_option Elab.async false
set_option linter.all false
set_option maxRecDepth 100000
set_option autoImplicit false
set_option maxHeartbeats 2000000
/-! FdZ: texts: str(x), x.split(y), x.join(ys), int(word), sign in text. -/
namespace Fd
open PySem PySem.Spec PyProof.Rows L2 LamX
section
variable {X : Cx} {K : PySem.W.Frag} {T : Tb} {E : XK} {a b e : Expr} {es : List Expr} {ta tb : DE} {tq : DQ} {pos : Pos}
def dStrOf : List PyData → M PyData
  | [.int i], Q, _ => i.natAbs.log2 < 1920 ∧ Q (.str (toString i))
  | [.str z], Q, _ => Q (.str z)
  | _, _, _ => False
theorem call_strA : CallR X (.type "str") (fun xs H Q => (∃ i, xs = [.int i] ∧ i.natAbs.log2 < 1920 ∧ Q (.str (toString i)) H) ∨ (∃ a, xs = [.str a] ∧ Q (.str a) H)) := callOr call_str_int SkE.call_str_str
theorem cd_str : CallD K T (fun xs H Q => (∃ i, xs = [V.int i] ∧ i.natAbs.log2 < 1920 ∧ Q (V.str (toString i)) H) ∨ (∃ a, xs = [V.str a] ∧ Q (V.str a) H)) dStrOf := by
  intro vs ds H G Qd Ed Q h p w k
  unfold dStrOf at w
  split at w
  · rename_i i
    cases p with
    | cons p1 p2 =>
      cases p2
      cases p1
      exact .inl ⟨i, rfl, w.1, k _ _ H G h (.str _) w.2⟩
  · rename_i z
    cases p with
    | cons p1 p2 =>
      cases p2
      cases p1
      exact .inr ⟨z, rfl, k _ _ H G h (.str _) w⟩
  · exact w.elim
/-- int(x), x a whole number, a truth or a text of figures -/
def dIntT : List PyData → M PyData
  | [.str z], Q, _ => ∃ n, PySem.intText? z = some n ∧ z.length ≤ 640 ∧ Q (.int n)
  | _, _, _ => False
theorem cd_intT : CallD K T (fun xs H Q => ∃ a n, xs = [V.str a] ∧ PySem.intText? a = some n ∧ a.length ≤ 640 ∧ Q (V.int n) H) dIntT := by
  intro vs ds H G Qd Ed Q h p w k
  unfold dIntT at w
  split at w
  · rename_i z
    cases p with
    | cons p1 p2 =>
      cases p2
      cases p1
      obtain ⟨n, e1, e2, q⟩ := w
      exact ⟨z, n, rfl, e1, e2, k _ _ H G h (.int _) q⟩
  · exact w.elim
/-- sign in text -/
def dInS : PyData → PyData → M PyData := fun x y Q _ => ∃ (c : Nat) (z : Str), x = .str ⟨#[c]⟩ ∧ y = .str z ∧ Q (.bool (decide (c ∈ z.cps.toList)))
theorem od_inS : OpD K T (fun x y H Q => ∃ (c : Nat) (z : Str), x = V.str ⟨#[c]⟩ ∧ y = V.str z ∧ Q (V.bl (decide (c ∈ z.cps.toList))) H) dInS := by
  intro x y d1 d2 H G Qd Ed Q h p1 p2 ⟨c, z, e1, e2, q⟩ k
  subst e1 e2
  cases p1
  cases p2
  exact ⟨c, z, rfl, rfl, k _ _ H G h (.bl _) q⟩
/-- x.split(y) -/
@[simp] def dSplit (ta tb : DE) : DA := fun r Q E => ta r (fun d => ∃ x : Str, d = .str x ∧ tb r (fun e => ∃ y : Str, e = .str y ∧ (y.length == 0) = false ∧ x.length + 2 ≤ sizeLine ∧ Q ((Txt.split x y).map .str)) E) E
theorem fn_split {apos cpos : Pos} (ho : FE X T E a ta) (he : FE X T E e tb)
    (hbase : attributeBase a "split" X.env (eval a X.env) = eval a X.env := by rfl)
    (hfew : ((backTo cpos (starEach [e] X.env)).all (fun x => !x.1) && (backToKw cpos (keywordEach [] X.env)).all (fun x => x.1.isSome) && decide ([e].length + ([] : List Keyword).length + (if ([] : List Keyword).isEmpty then 0 else 1) < 30)) = true := by rfl)
    (hline : (apos.endLine == cpos.line) = true := by rfl) (hs : starEach [e] X.env = (false, eval e X.env) :: starEach [] X.env := by rfl) (hplain : (backTo cpos (starEach [] X.env)).any (·.1) = false := by rfl) :
    FN X T E (.Call (.Attribute a "split" apos) [e] [] cpos) (dSplit ta tb) := by
  refine FN.mk' (pe_bm PySem.F.plainAttrs_str PySem.F.slot_str_split PySem.F.type_str_split mt_split ho.pe (pa_cons he.pe pa_nil hs) hbase hfew hline hs hplain) fun sg H Q ⟨H0, G0, r, G, Qd, Ed, h, er, w, k, x⟩ => ?_
  refine ⟨H0, G0, r, G, _, Ed, h, er, w, fun d v H1 G1 h1 p1 ⟨x1, e1, w1⟩ => ?_, x⟩
  subst e1
  cases p1
  refine ⟨rfl, H0, G0, r, G1, _, Ed, h.trans h1, er.grow h1, w1, fun d2 v2 H2 G2 h2 p2 ⟨y1, e2, hy, hx, q⟩ => ?_, x.up h1⟩
  subst e2
  cases p2
  refine ⟨x1, y1, rfl, rfl, hy, hx, fun p hp => ?_⟩
  exact k _ p _ _ G2 ((h1.trans h2).trans (h2.laidO hp)) ((NT.none hp).back (h1.trans h2).ext) upd_same (G_none h2 hp) (DpAll.strs _) q
/-- x.join(ys) -/
@[simp] def dJoin (ta : DE) (tq : DQ) : DE := fun r Q E => ta r (fun d => ∃ x : Str, d = .str x ∧ tq r (fun _ ds => ∃ ys : List Str, ds = ys.map .str ∧ (ys.map (·.length)).sum + ys.length * x.length ≤ 16777216 ∧ Q (.str (Txt.join x ys))) E) E
theorem fe_join {apos cpos : Pos} (ho : FE X T E a ta) (he : FQ X T E e tq)
    (hbase : attributeBase a "join" X.env (eval a X.env) = eval a X.env := by rfl)
    (hfew : ((backTo cpos (starEach [e] X.env)).all (fun x => !x.1) && (backToKw cpos (keywordEach [] X.env)).all (fun x => x.1.isSome) && decide ([e].length + ([] : List Keyword).length + (if ([] : List Keyword).isEmpty then 0 else 1) < 30)) = true := by rfl)
    (hline : (apos.endLine == cpos.line) = true := by rfl) (hs : starEach [e] X.env = (false, eval e X.env) :: starEach [] X.env := by rfl) (hplain : (backTo cpos (starEach [] X.env)).any (·.1) = false := by rfl) :
    FE X T E (.Call (.Attribute a "join" apos) [e] [] cpos) (dJoin ta tq) := by
  refine FE.mk' (pe_bm PySem.F.plainAttrs_str PySem.F.slot_str_join PySem.F.type_str_join mt_join ho.pe (pa_cons he.pe pa_nil hs) hbase hfew hline hs hplain) fun sg H Q ⟨H0, G0, r, G, Qd, Ed, h, er, w, k, x⟩ => ?_
  refine ⟨H0, G0, r, G, _, Ed, h, er, w, fun d v H1 G1 h1 p1 ⟨x1, e1, w1⟩ => ?_, x⟩
  subst e1
  cases p1
  refine ⟨rfl, H0, G0, r, G1, _, Ed, h.trans h1, er.grow h1, w1, fun bb ds p vs H2 G2 h2 sq p2 ⟨ys, e2, hz, q⟩ => ?_, x.up h1⟩
  subst e2
  have ev := DpAll.ofStrs p2
  subst ev
  refine ⟨x1, p, ys, rfl, rfl, ?_, hz, k _ _ H2 G2 (h1.trans h2) (.str _) q⟩
  cases bb with
  | true => exact .inl sq
  | false => exact .inr sq
end
/-! ### recursion: a def that is never called that deep -/
section
variable {P : Program} {w : World} {K : PySem.W.Frag} {mg : Str → Option Value} {base : Heap} {T : Tb}
theorem okNever {x : Str} {st : Stmt} {f : Addr} {ps : List Str} {k : Nat} (F : ∃ fd, FunD K x x (defArgs st) (defBody st) (defScope st) [] [] f fd) (hm : mg x = some (.ref f))
    (hbind : ∀ (kV doc pm : Value) (an : Option Addr) (cdv ct : Value) (us : List Value), us.length = ps.length → bindArgs (PySem.W.fnOf x x (defArgs st) (defBody st) (defScope st) .none kV doc pm an cdv ct) ⟨us, []⟩ = pure (ps.zip us)) :
    Ok P w K mg base T k x ps (fun _ _ _ => False) := by
  obtain ⟨fd, F⟩ := F
  have b := F.bindsN hbind
  obtain ⟨oc, od, dV, kV, doc, pm, an, cdv, ct, osl, _, lk, _⟩ := id F.ex
  exact ⟨f, fd, ⟨fun vs H Q E ⟨_, _, _, _, _, _, c, _⟩ => c.elim, fun A outer s H args us vs Q E hr e0 hb r ⟨_, _, _, _, _, _, c, _⟩ => c.elim⟩, hm, F.kp, b, oc, od, osl, lk⟩
end
end Fd
end
section
set_option Elab.async false
set_option linter.all false
set_option maxRecDepth 100000
set_option autoImplicit false
set_option maxHeartbeats 2000000
/-! FdB: x.upper(). -/
namespace Fd
open PySem PySem.Spec PyProof.Rows L2 LamX
section
variable {X : Cx} {K : PySem.W.Frag} {T : Tb} {E : XK} {a b e : Expr} {es : List Expr} {ta tb : DE} {tq : DQ} {pos : Pos}
theorem mt_upper : MtR X "str.upper" (fun x xs H Q => ∃ a, x = V.str a ∧ xs = [] ∧ a.length ≤ 5592405 ∧ Q (V.str (Txt.upper a)) H) := by
  intro pins s sg H x xs v us Q I rx rs h
  obtain ⟨a, rfl, rfl, hz, q⟩ := h
  obtain ⟨t, rfl⟩ := rx
  cases rs
  exact PySem.SC.upper (PyProof.Rows.short24 (by have := PyProof.Rows.len_upper a; omega)) ⟨V.str (Txt.upper a), H, I.tok _, ⟨_, rfl⟩, q⟩
@[simp] def dUpper (ta : DE) : DE := fun r Q E => ta r (fun d => ∃ x : Str, d = .str x ∧ x.length ≤ 5592405 ∧ Q (.str (Txt.upper x))) E
theorem fe_upper {apos cpos : Pos} (ho : FE X T E a ta) (hbase : attributeBase a "upper" X.env (eval a X.env) = eval a X.env := by rfl) (hline : (apos.endLine == cpos.line) = true := by rfl) :
    FE X T E (.Call (.Attribute a "upper" apos) [] [] cpos) (dUpper ta) := by
  refine FE.mk' (pe_bm0 PySem.F.plainAttrs_str PySem.F.slot_str_upper PySem.F.type_str_upper mt_upper ho.pe hbase hline) fun sg H Q ⟨H0, G0, r, G, Qd, Ed, h, er, w, k, x⟩ => ?_
  refine ⟨H0, G0, r, G, _, Ed, h, er, w, fun d v H1 G1 h1 p1 ⟨x1, e1, hz, w1⟩ => ?_, x⟩
  subst e1
  cases p1
  exact ⟨rfl, x1, rfl, rfl, hz, k _ _ H1 G1 h1 (.str _) w1⟩
/-- text * k, k at least 2, no empty text -/
def repS (x : Str) (k : Int) : Str := ⟨(List.replicate k.toNat x.cps).foldl (· ++ ·) #[]⟩
theorem op_mulS : OpR X (binaryOp .Mult) (fun x y H Q => ∃ (z : Str) (k : Int), x = V.str z ∧ y = V.int k ∧ 2 ≤ k ∧ k ≤ 1000 ∧ (z.length == 0) = false ∧ z.length ≤ 1000 ∧ (repS z k).length ≤ sizeLine ∧ Q (V.str (repS z k)) H) := by
  intro pins s sg H x y u v Q I rx ry h
  obtain ⟨z, k, rfl, rfl, h2, hk, h0, hz, hl, q⟩ := h
  obtain ⟨t, rfl⟩ := rx
  obtain ⟨t2, rfl⟩ := ry
  have e1 : (k == 1 || z.length == 0) = false := by
    have : (k == 1) = false := by simpa using (show ¬ k = 1 by omega)
    rw [this, h0]
    rfl
  refine PySem.P.mul_str (by rw [decide_eq_false (by omega), decide_eq_false (by omega)]; rfl) (fun _ _ => ?_) (fun _ _ => ?_) ?_
  · have := Int.le_ediv_of_mul_le (a := 1000) (b := 2 ^ 63 - 1) (c := k) (by omega) (by omega)
    omega
  · have : z.length * k.toNat ≤ 1000 * 1000 := Nat.mul_le_mul hz (by omega)
    show decide (_ > sizeLine) = false
    rw [sizeLine_eq]
    exact decide_eq_false (by omega)
  · rw [if_neg (by omega), e1, if_neg Bool.false_ne_true]
    exact ⟨hl, ⟨V.str (repS z k), H, I.tok _, ⟨_, rfl⟩, q⟩⟩
/-- text[::-1] -/
def revS (z : Str) : Str := ⟨((Builtin.Str.strSliceIndices none none (-1) z.length).filterMap (z.cps[·]?)).toArray⟩
def tRevT (K : PySem.W.Frag) (te : TE) : TE := fun σ H Q => te σ H fun x H1 => ∃ z, x = V.str z ∧ (revS z).length ≤ sizeLine ∧ Q (V.str (revS z)) H1
theorem pe_revT {e : Expr} {te : TE} {k : Nat} {p1 p2 p3 : Pos} (he : PE X e te) : PE X (.Subscript e (.Slice none none (some (.UnaryOp .USub (.Constant (.int 1) k p1) p2)) p3) pos) (tRevT X.K te) := by
  refine ⟨fun pins s σ H Q I h => ?_⟩
  refine Subscript_ (thn (he.run pins s σ H _ I h) fun v s1 ⟨x, H1, I1, r1, q1⟩ => ?_)
  have hst : PO X (some (.UnaryOp .USub (.Constant (.int 1) k p1) p2)) (tPart (tUn (rU fun i => .int (-i)) (tC (.int 1)))) := po_some (pe_un un_neg pe_int)
  refine wpAny_Slice (thn (po_none.run pins s1 σ H1 (fun o H2 => o = none ∧ H2 = H1) I1 ⟨rfl, rfl⟩) fun vl s2 ⟨l, H2, I2, pl, el, e2⟩ => ?_)
  subst el e2
  refine thn (po_none.run pins s2 σ H2 (fun o H3 => o = none ∧ H3 = H2) I2 ⟨rfl, rfl⟩) fun vu s3 ⟨u, H3, I3, pu, eu, e3⟩ => ?_
  subst eu e3
  refine thn (hst.run pins s3 σ H3 (fun o H4 => o = some (-1) ∧ H4 = H3) I3 ⟨1, rfl, -1, rfl, rfl, rfl⟩) fun vs s4 ⟨o, H4, I4, ps, eo, e4⟩ => ?_
  subst eo e4
  have I5 : Inv X pins σ H4 { s4 with heap := s4.heap.push { cls := .type "slice", data := .fields #[vl, vu, vs] } } := I4.kept (t' := s4.toks) fun b ob q => Heap.get?_push_of_some _ q
  obtain ⟨z, rfl, hz, q⟩ := q1
  obtain ⟨t, rfl⟩ := r1
  obtain ⟨l, e2, e1⟩ := IsPart.raw pl
  obtain ⟨u, e4, e3⟩ := IsPart.raw pu
  obtain ⟨w, e6, e5⟩ := IsPart.raw ps
  cases l with
  | some p => simp at e1
  | none =>
  cases u with
  | some p => simp at e3
  | none =>
  cases w with
  | none => simp at e5
  | some p =>
  obtain ⟨i, ti⟩ := p
  have ei : i = -1 := by simpa using e5
  subst ei e2 e4 e6
  show wpAny (model X.prog X.w) X.A (subscriptTail e (.Slice none none (some (.UnaryOp .USub (.Constant (.int 1) k p1) p2)) p3) (.str z t) (.ref s4.heap.objs.size)) (EP X pins σ Q) X.xe _
  refine tail_any (ops := [.str z t, .ref s4.heap.objs.size]) (typeIs_str _ z t) PySem.F.slot_str_getitem.lookup ?_ (by with_unfolding_all rfl)
  refine wpAny_getItem_str_slice (l := none) (u := none) (st := some (-1, ti)) ⟨_, Heap.get?_push_size _ rfl, rfl, rfl⟩ rfl ?_
  exact ⟨hz, ⟨V.str (revS z), _, I5.tok _, ⟨_, rfl⟩, q⟩⟩
end
end Fd
end
section
set_option Elab.async false
set_option linter.all false
set_option maxRecDepth 100000
set_option autoImplicit false
set_option maxHeartbeats 2000000
/-! FdC: zip of a list and two tuples. -/
namespace Fd
open PySem PySem.Spec PyProof.Rows L2 LamX RZ
/-- a list and two tuples as they stand at each turn, the items in new triples -/
def Itz3 (K : PySem.W.Frag) (a b c : Addr) : It :=
  ⟨fun i H => ∃ (xs ys zs : List V) (x y z : V), SqL K H a xs ∧ SqT K H b ys ∧ SqT K H c zs ∧ xs[i]? = some x ∧ ys[i]? = some y ∧ zs[i]? = some z,
    fun i H v H' => ∃ T x y z, v = .ref T ∧ H T = none ∧ H' = upd H T (.tup [x, y, z]) ∧ (∀ xs, SqL K H a xs → xs[i]? = some x) ∧ (∀ ys, SqT K H b ys → ys[i]? = some y) ∧ ∀ zs, SqT K H c zs → zs[i]? = some z,
    fun i H => ∃ xs ys zs : List V, SqL K H a xs ∧ SqT K H b ys ∧ SqT K H c zs ∧ i = min (min xs.length ys.length) zs.length⟩
theorem turn_zip3 {P : Program} {w : World} {K : PySem.W.Frag} {elts : List Expr} {kk : Nat} {tpos : Pos} {a b c z TI TO i1 i2 i3 : Addr} (D : ZipSep3 z TI TO i1 i2 i3 [i1, a] [i2, b] [i3, c]) (n1 : a ≠ i1) (n2 : b ≠ i2) (n3 : c ≠ i3) :
    Turn P w K (.Tuple elts kk tpos) (Itz3 K a b c) [z, TI, TO, i1, i2, i3] z (fun i h => IsZip h z TI TO .none ∧ IsTupOf3 h TI (.ref i1) (.ref i2) (.ref i3) ∧ (∃ x y u, IsTupOf3 h TO x y u) ∧ h.IsListIter i1 a i ∧ h.IsTupleIter i2 b i ∧ h.IsTupleIter i3 c i) where
  mem := by simp
  obj := fun i h st c hc => by
    obtain ⟨hz, hTI, ⟨x, y, u, hTO⟩, ⟨o1, e1, _, d1⟩, ⟨o2, e2, _, d2⟩, ⟨o3, e3, _, d3⟩⟩ := st
    have e' : c = z ∨ c = TI ∨ c = TO ∨ c = i1 ∨ c = i2 ∨ c = i3 := by simpa using hc
    rcases e' with q | q | q | q | q | q
    · rw [q]; exact ⟨_, hz, fun v q => nomatch q⟩
    · rw [q]; exact ⟨_, hTI, fun v q => nomatch q⟩
    · rw [q]; exact ⟨_, hTO, fun v q => nomatch q⟩
    · rw [q]; exact ⟨o1, e1, fun v q => by rw [d1] at q; cases q⟩
    · rw [q]; exact ⟨o2, e2, fun v q => by rw [d2] at q; cases q⟩
    · rw [q]; exact ⟨o3, e3, fun v q => by rw [d3] at q; cases q⟩
  keep := fun i h h' st k => by
    obtain ⟨hz, hTI, ⟨x, y, u, hTO⟩, h1, h2, h3⟩ := st
    exact ⟨k z (by simp) _ hz, k TI (by simp) _ hTI, ⟨x, y, u, k TO (by simp) _ hTO⟩, h1.at fun o q => k i1 (by simp) o q, h2.at fun o q => k i2 (by simp) o q, h3.at fun o q => k i3 (by simp) o q⟩
  item := by
    intro X hP hw hK hc i pins s σ H E I hf st hg
    subst hP hw hK
    obtain ⟨hz, hTI, ⟨x0, y0, u0, hTO⟩, h1, h2, h3⟩ := st
    obtain ⟨xs, ys, zs, x, y, u, hqx, hqy, hqz, hx, hy, hu⟩ := hg
    obtain ⟨its, rv, p, _⟩ := I.list hqx
    obtain ⟨its2, rv2, p2, _⟩ := I.tuple hqy
    obtain ⟨its3, rv3, p3, _⟩ := I.tuple hqz
    obtain ⟨v1, hv1, r1⟩ := rv.get hx
    obtain ⟨v2, hv2, r2⟩ := rv2.get hy
    obtain ⟨v3, hv3, r3⟩ := rv3.get hu
    have hh : X.A.in1.handled = none := I.ok.hd hc
    have hzl : z < s.heap.objs.size := Heap.lt_size hz
    have l1 : i < its.toArray.size := by
      have := (List.getElem?_eq_some_iff.mp hv1).1
      simpa using this
    have l2 : i < its2.toArray.size := by
      have := (List.getElem?_eq_some_iff.mp hv2).1
      simpa using this
    have l3 : i < its3.toArray.size := by
      have := (List.getElem?_eq_some_iff.mp hv3).1
      simpa using this
    refine wpAny_pyNext_zipD3_item D (Draws.list hh i1 a n1 its.toArray) (Draws.tuple hh i2 b n2 its2.toArray) (Draws.tuple hh i3 c n3 its3.toArray) hz hTI hTO ⟨h1, p.isList⟩ ⟨h2, p2⟩ ⟨h3, p3⟩ l1 l2 l3 fun w1 w2 w3 h' tk y1 y2 y3 z' TO' h1' h2' h3' hT hsz hk => ?_
    have ew1 : w1 = v1 := by
      have := y1.symm.trans (by simpa using hv1)
      simpa using this
    have ew2 : w2 = v2 := by
      have := y2.symm.trans (by simpa using hv2)
      simpa using this
    have ew3 : w3 = v3 := by
      have := y3.symm.trans (by simpa using hv3)
      simpa using this
    subst ew1 ew2 ew3
    refine ⟨_, rfl, wpAny_letOwnedTupleGo_zip (s := { s with heap := h', toks := tk }) z' fun h'' z'' sb => ?_⟩
    have hT2 : h''.get? s.heap.objs.size = some { cls := .type "tuple", data := .seq #[w1, w2, w3] } := (sb.2 _ (Nat.ne_of_gt hzl)).trans hT
    have new : ObjOk X.prog X.w (upd H s.heap.objs.size (.tup [x, y, u])) h'' s.heap.objs.size (.tup [x, y, u]) :=
      ⟨by show 3 ≤ sizeLine; decide, [w1, w2, w3], .cons r1 (.cons r2 (.cons r3 .nil)), ⟨_, hT2, rfl, _, rfl⟩⟩
    have I1 : Inv X pins σ (upd H s.heap.objs.size (.tup [x, y, u])) { s with heap := h'', toks := tk } :=
      I.turnedNew (t' := tk) (ch := [z, TI, TO, i1, i2, i3]) (fun c o hb q => (sb.2 c (fun q' => hb (by simp [q']))).trans (hk c o (fun q' => hb (by simp [q'])) (fun q' => hb (by simp [q'])) (fun q' => hb (by simp [q'])) (fun q' => hb (by simp [q'])) (fun q' => hb (by simp [q'])) q)) hf (Nat.le_refl _) new
    refine ⟨.ref s.heap.objs.size, _, I1, rfl, ⟨_, x, y, u, rfl, I.hok.fresh (Nat.le_refl _), rfl, fun l hl => by rw [I.list_inj hl hqx]; exact hx, fun l hl => by rw [I.tuple_inj hl hqy]; exact hy, fun l hl => by rw [I.tuple_inj hl hqz]; exact hu⟩, ⟨z'', ?_, ⟨w1, w2, w3, ?_⟩, ?_, ?_, ?_⟩, fun c hcm => ?_⟩
    · exact (sb.2 _ D.TIz).trans (hk _ _ D.TIz D.TITO D.TIi1 D.TIi2 D.TIi3 hTI)
    · exact (sb.2 _ D.TOz).trans TO'
    · exact h1'.1.at fun o q => (sb.2 _ D.zi1.symm).trans q
    · exact h2'.1.at fun o q => (sb.2 _ D.zi2.symm).trans q
    · exact h3'.1.at fun o q => (sb.2 _ D.zi3.symm).trans q
    · have hlt : c < s.heap.objs.size := by
        have e' : c = z ∨ c = TI ∨ c = TO ∨ c = i1 ∨ c = i2 ∨ c = i3 := by simpa using hcm
        rcases e' with q | q | q | q | q | q
        · rw [q]; exact hzl
        · rw [q]; exact Heap.lt_size hTI
        · rw [q]; exact Heap.lt_size hTO
        · rw [q]; obtain ⟨_, e1, _⟩ := h1; exact Heap.lt_size e1
        · rw [q]; obtain ⟨_, e2, _⟩ := h2; exact Heap.lt_size e2
        · rw [q]; obtain ⟨_, e3, _⟩ := h3; exact Heap.lt_size e3
      rw [upd_ne (Nat.ne_of_lt hlt)]
      exact (hf c hcm).1
  done := by
    intro X hP hw hK hc i pins s σ H E I hf st hg
    subst hP hw hK
    obtain ⟨hz, hTI, ⟨x0, y0, u0, hTO⟩, h1, h2, h3⟩ := st
    obtain ⟨xs, ys, zs, hqx, hqy, hqz, hend⟩ := hg
    obtain ⟨its, rv, p, _⟩ := I.list hqx
    obtain ⟨its2, rv2, p2, _⟩ := I.tuple hqy
    obtain ⟨its3, rv3, p3, _⟩ := I.tuple hqz
    have l1 := rv.length
    have l2 := rv2.length
    have l3 := rv3.length
    have hh : X.A.in1.handled = none := I.ok.hd hc
    have m1 : i ≤ its.toArray.size := by simp; omega
    have m2 : i ≤ its2.toArray.size := by simp; omega
    have m3 : i ≤ its3.toArray.size := by simp; omega
    have me : i = its.toArray.size ∨ i = its2.toArray.size ∨ i = its3.toArray.size := by simp; omega
    exact wpAny_pyNext_zipD3_end D (Draws.list hh i1 a n1 its.toArray) (Draws.tuple hh i2 b n2 its2.toArray) (Draws.tuple hh i3 c n3 its3.toArray) hz hTI hTO ⟨h1, p.isList⟩ ⟨h2, p2⟩ ⟨h3, p3⟩ m1 m2 m3 me fun h' tk hk => ⟨rfl, I.turnedL (t' := tk) (ch := [z, TI, TO, i1, i2, i3]) (fun c o hb q =>
      hk c o (fun q' => hb (by simp [q'])) (fun q' => hb (by simp [q'])) (fun q' => hb (by simp [q'])) (fun q' => hb (by simp [q'])) (fun q' => hb (by simp [q'])) q) hf⟩
  self := fun A i s Q E st h => wpAny_pyIter_zip st.1 h
def iZip3 (K : PySem.W.Frag) (ta : TA) : TI := fun σ H R => ta σ H fun vs H1 => ∃ a b c xs ys zs, vs = [.ref a, .ref b, .ref c] ∧ SqL K H1 a xs ∧ SqT K H1 b ys ∧ SqT K H1 c zs ∧ R (Itz3 K a b c) H1
theorem pi_zip3 {X : Cx} {e e2 e3 : Expr} {ta : TA} {p pos tpos : Pos} {elts : List Expr} {kk : Nat} (hg : Gl X "zip") (hm : X.mg "zip" = none) (ha : PA X [e, e2, e3] ta)
    (hs : starEach [e, e2, e3] X.env = (false, eval e X.env) :: starEach [e2, e3] X.env := by rfl) (hpl : (backTo pos (starEach [e2, e3] X.env)).any (·.1) = false := by rfl) :
    PI X (.Tuple elts kk tpos) (.Call (.Name "zip" p) [e, e2, e3] [] pos) (iZip3 X.K ta) := by
  refine ⟨fun pins s σ H R I h => ?_⟩
  refine Call_ (ld_blt I hg hm PyProof.Rows.boot_zip (PyProof.Rows.callWith_type1 (thn (ha.run pos pins s σ H _ I h) fun us s1 ⟨vs, H1, I1, r1, q1⟩ => ?_) hs hpl))
  obtain ⟨a, b, c, xs, ys, zs, ex, hqx, hqy, hqz, q⟩ := q1
  subst ex
  cases r1 with
  | cons r rr => cases rr with
    | cons r' rr => cases rr with
      | cons r'' rr =>
        cases rr
        cases r
        cases r'
        cases r''
        obtain ⟨its, rv, p1, _⟩ := I1.list hqx
        obtain ⟨its2, rv2, p2, _⟩ := I1.tuple hqy
        obtain ⟨its3, rv3, p3, _⟩ := I1.tuple hqz
        obtain ⟨o1, ho1, _⟩ := id p1.isList
        obtain ⟨o2, ho2, _⟩ := id p2
        obtain ⟨o3, ho3, _⟩ := id p3
        have la : a < s1.heap.objs.size := Heap.lt_size ho1
        have lb : b < s1.heap.objs.size := Heap.lt_size ho2
        have lc : c < s1.heap.objs.size := Heap.lt_size ho3
        refine zip_begins3 (begins_list a its.toArray) (begins_tuple b its2.toArray) (begins_tuple c its3.toArray) p1.isList p2 p3 fun h' hz hTI hTO h1 h2 h3 hsz hk => wpAny_pyIter_zip hz ?_
        have I2 : Inv X pins σ H1 { s1 with heap := h' } := I1.kept (t' := s1.toks) hk
        have D : ZipSep3 (s1.heap.objs.size + 5) (s1.heap.objs.size + 3) (s1.heap.objs.size + 4) s1.heap.objs.size (s1.heap.objs.size + 1) (s1.heap.objs.size + 2) [s1.heap.objs.size, a] [s1.heap.objs.size + 1, b] [s1.heap.objs.size + 2, c] :=
          zip_sep3 (fun x hx => by rw [List.mem_singleton] at hx; rw [hx]; exact la) (fun x hx => by rw [List.mem_singleton] at hx; rw [hx]; exact lb) (fun x hx => by rw [List.mem_singleton] at hx; rw [hx]; exact lc)
        refine ⟨s1.heap.objs.size + 5, [s1.heap.objs.size + 5, s1.heap.objs.size + 3, s1.heap.objs.size + 4, s1.heap.objs.size, s1.heap.objs.size + 1, s1.heap.objs.size + 2], _, _, H1, rfl, I2, turn_zip3 D (Nat.ne_of_lt la) (Nat.ne_of_lt (Nat.lt_succ_of_lt lb)) (Nat.ne_of_lt (Nat.lt_succ_of_lt (Nat.lt_succ_of_lt lc))), ⟨hz, hTI, ⟨_, _, _, hTO⟩, ⟨_, h1, rfl, rfl⟩, ⟨_, h2, rfl, rfl⟩, ⟨_, h3, rfl, rfl⟩⟩, fun d hdm => ?_, q⟩
        have hle : s1.heap.objs.size ≤ d := by
          have e' : d = s1.heap.objs.size + 5 ∨ d = s1.heap.objs.size + 3 ∨ d = s1.heap.objs.size + 4 ∨ d = s1.heap.objs.size ∨ d = s1.heap.objs.size + 1 ∨ d = s1.heap.objs.size + 2 := by simpa using hdm
          rcases e' with z | z | z | z | z | z
          · rw [z]; exact Nat.le_add_right _ _
          · rw [z]; exact Nat.le_add_right _ _
          · rw [z]; exact Nat.le_add_right _ _
          · rw [z]; exact Nat.le_refl _
          · rw [z]; exact Nat.le_add_right _ _
          · rw [z]; exact Nat.le_add_right _ _
        exact I1.fpOk hle (I1.hok.fresh hle)
section
variable {X : Cx} {K : PySem.W.Frag} {T : Tb} {E : XK} {a b c e : Expr} {pos : Pos}
def zipD3 : List PyData → List PyData → List PyData → List PyData
  | x :: xs, y :: ys, z :: zs => .tuple [x, y, z] :: zipD3 xs ys zs
  | _, _, _ => []
theorem zipD3_length : ∀ xs ys zs : List PyData, (zipD3 xs ys zs).length = min (min xs.length ys.length) zs.length
  | x :: xs, y :: ys, z :: zs => by simp only [zipD3, List.length_cons, zipD3_length xs ys zs]; omega
  | [], _, _ => by simp [zipD3]
  | _ :: _, [], _ => by simp [zipD3]
  | _ :: _, _ :: _, [] => by simp [zipD3]
theorem zipD3_at : ∀ {xs ys zs : List PyData} {i : Nat} {x y z : PyData}, xs[i]? = some x → ys[i]? = some y → zs[i]? = some z → (zipD3 xs ys zs)[i]? = some (.tuple [x, y, z])
  | [], _, _, _, _, _, _, h, _, _ => by simp at h
  | _ :: _, [], _, _, _, _, _, _, h, _ => by simp at h
  | _ :: _, _ :: _, [], _, _, _, _, _, _, h => by simp at h
  | x :: xs, y :: ys, z :: zs, 0, _, _, _, h1, h2, h3 => by simp at h1 h2 h3; subst h1 h2 h3; rfl
  | x :: xs, y :: ys, z :: zs, i + 1, _, _, _, h1, h2, h3 => by
    simp only [List.getElem?_cons_succ] at h1 h2 h3
    show (zipD3 xs ys zs)[i]? = _
    exact zipD3_at (i := i) h1 h2 h3
theorem walkD_zip3 {a b c : Addr} {xs ys zs : List V} {ds es fs : List PyData} {G1 : Hp} (ha : DpAll K G1 xs ds) (hb : DpAll K G1 ys es) (hc : DpAll K G1 zs fs) : WalkD K T (Itz3 K a b c) (zipD3 ds es fs) G1 (fun H => SqL K H a xs ∧ SqT K H b ys ∧ SqT K H c zs) := by
  have l1 := ha.len
  have l2 := hb.len
  have l3 := hc.len
  have lz := zipD3_length ds es fs
  refine ⟨fun i H hi q => ⟨xs, ys, zs, xs[i]'(by omega), ys[i]'(by omega), zs[i]'(by omega), q.1, q.2.1, q.2.2, by simp [show i < xs.length by omega], by simp [show i < ys.length by omega], by simp [show i < zs.length by omega]⟩, fun H q => ⟨xs, ys, zs, q.1, q.2.1, q.2.2, by omega⟩, fun i H G v H' hi q hr sm y => ?_⟩
  obtain ⟨t, x, y, z, e1, e2, e3, e4, e5, e6⟩ := y
  subst e1 e3
  obtain ⟨d1, h1, h2⟩ := ha.at (e4 xs q.1)
  obtain ⟨d2, h3, h4⟩ := hb.at (e5 ys q.2.1)
  obtain ⟨d3, h5, h6⟩ := hc.at (e6 zs q.2.2)
  have g := sm.trans (hr.laidT (vs := [x, y, z]) e2).g0
  exact ⟨_, .tuple [d1, d2, d3], zipD3_at h1 h3 h5, hr.laidT e2, .tup (SqT.of upd_same) (.cons (h2.up g) (.cons (h4.up g) (.cons (h6.up g) .nil)))⟩
def dZp3 : List PyData → (List PyData → Prop) → Prop
  | [.list xs, .tuple ys, .tuple zs], Q => Q (zipD3 xs ys zs)
  | _, _ => False
@[simp] def dZip3 (t : DA) : DA := fun r Q E => t r (fun ds => dZp3 ds Q) E
@[simp] theorem dZp3_1 {xs ys zs : List PyData} {Q : List PyData → Prop} : dZp3 [.list xs, .tuple ys, .tuple zs] Q = Q (zipD3 xs ys zs) := rfl
theorem fi_zip3 {es : DA} {p tpos : Pos} {elts : List Expr} {kk : Nat} (hg : Gl X "zip") (hm : X.mg "zip" = none) (ha : FA X T E [a, b, c] es)
    (hs : starEach [a, b, c] X.env = (false, eval a X.env) :: starEach [b, c] X.env := by rfl) (hpl : (backTo pos (starEach [b, c] X.env)).any (·.1) = false := by rfl) :
    FI X T E true (.Tuple elts kk tpos) (.Call (.Name "zip" p) [a, b, c] [] pos) (dZip3 es) := by
  refine FI.mk' (pi_zip3 hg hm ha.pa hs hpl) fun sg H R ⟨H0, G0, r, G, Qd, Ed, h, er, w, k, x⟩ => ?_
  refine ⟨H0, G0, r, G, _, Ed, h, er, w, fun ds vs H' G' z p q => ?_, x⟩
  unfold dZp3 at q
  split at q
  · rename_i xs ys zs
    cases p with
    | cons p1 p2 => cases p2 with
      | cons p2 p3 => cases p3 with
        | cons p3 p4 =>
          cases p4
          cases p1 with
          | lst s1 a1 => cases p2 with
            | tup s2 a2 => cases p3 with
              | tup s3 a3 => exact ⟨_, _, _, _, _, _, rfl, z.sub.seq s1, sqT_mono z.sub s2, sqT_mono z.sub s3, k _ _ _ H' G' z (walkD_zip3 a1 a2 a3) (fun H2 e => ⟨(ext_of_same z.sub z.nt e).seq s1, sqT_mono (ext_of_same z.sub z.nt e) s2, sqT_mono (ext_of_same z.sub z.nt e) s3⟩) (fun _ H2 s => ⟨s.seq s1, sqT_mono s s2, sqT_mono s s3⟩) q⟩
  · exact q.elim
end
end Fd
end
section
set_option Elab.async false
set_option linter.all false
set_option maxRecDepth 100000
set_option autoImplicit false
set_option maxHeartbeats 4000000
/-! Fe1: a tuple once, * of ints, texts, tuples, [::-1] of texts, lists, tuples. -/
namespace Fd
open PySem PySem.Spec PyProof.Rows L2 LamX
theorem tuple_mul1 (l : Addr) (items : Array Value) (n : Nat) (dd : Option Addr) (sl : Array (Option Value)) (u : Tok) :
    Meets (Builtin.«tuple.__mul__» ⟨[.ref l, .int 1 u], []⟩) (fun _ R s => s.heap.get? l = some { cls := .type "tuple", dict := dd, data := .seq items n, slots := sl } ∧ R (.ok (.ret (Value.ref l))) s) :=
  .of_wp fun prog w A R s h => by
    obtain ⟨hp, g, d, tk, os⟩ := s
    obtain ⟨hl, h⟩ := h
    have f1 := AutoSeq1.idx_int
    wp_walk using wpAny_loadPart' hl
    exact ⟨_, rfl, h⟩
def rRepT1 (K : PySem.W.Frag) : R2 := fun x y H Q => ∃ l xs, x = V.ref l ∧ y = V.int 1 ∧ SqT K H l xs ∧ Q (V.ref l) H
section
variable {X : Cx} {K : PySem.W.Frag} {T : Tb} {E : XK} {a b e : Expr} {ta tb te : DE} {pos : Pos}
theorem op_repT1 : OpR X (binaryOp .Mult) (rRepT1 X.K) := by
  intro pins s sg H x y v u Q I rx ry h
  obtain ⟨l, xs, rfl, rfl, hT, q⟩ := h
  cases rx
  obtain ⟨t, rfl⟩ := ry
  obtain ⟨its, r, ⟨⟨cls, dd, data, sl⟩, ho, hc, n, hd⟩, hs⟩ := I.tuple hT
  simp only at hc hd
  subst hc hd
  have call1 : wpAny (model X.prog X.w) X.A (call (.builtin "tuple.__mul__") [.ref l, .int 1 t]) (EP X pins sg Q) X.xe s :=
    call_meets F.slot_tuple_mul ⟨_, ho, rfl⟩ F.entry_tuple_mul (F.args_tuple_mul_2 _ _) (tuple_mul1 l its.toArray n dd sl t) ⟨ho, V.ref l, H, I, rfl, q⟩
  exact wpAny_binaryOp_repeat_ref (T := "tuple") (U := "int") (by decide) ⟨_, ho, rfl⟩ (fun s' => typeIs_int s' 1 t) noFill_tuple_mul F.fills_int_mul F.slot_int_rmul repeat_tuple F.slot_int_index.lookup
    (call_meets F.slot_int_rmul (typeIs_int s 1 t) F.entry_int_rmul (F.args_int_rmul_2 _ _) (int_rmul_tuple 1 t l its.toArray n dd sl) ⟨ho, rfl, ⟨_, ho, rfl⟩, call1⟩)
/-- a tuple once or more -/
def rMulU (K : PySem.W.Frag) : R2 := fun x y H Q => rRepT1 K x y H Q ∨ rRepT K x y H Q
theorem op_mulU : OpR X (binaryOp .Mult) (rMulU X.K) := opOr op_repT1 op_repT
def dMulU : PyData → PyData → M PyData
  | .tuple ds, .int k, Q, _ => ds ≠ [] ∧ 1 ≤ k ∧ k ≤ 1000 ∧ ds.length ≤ 1000 ∧ Q (.tuple (List.replicate k.toNat ds).flatten)
  | _, _, _, _ => False
@[simp] theorem dMulU_2 {ds : List PyData} {k : Int} {Q : PyData → Prop} {E : Value → Prop} : dMulU (.tuple ds) (.int k) Q E = (ds ≠ [] ∧ 1 ≤ k ∧ k ≤ 1000 ∧ ds.length ≤ 1000 ∧ Q (.tuple (List.replicate k.toNat ds).flatten)) := rfl
theorem od_mulU : OpD K T (rMulU K) dMulU := by
  intro x y d1 d2 H G Qd Ed Q h p1 p2 w k
  cases p1 with
  | tup hs ha => cases p2 with
    | int j =>
      obtain ⟨w1, w2, w3, w4, w5⟩ := w
      have hl := ha.len
      by_cases h1 : j = 1
      · subst h1
        refine .inl ⟨_, _, rfl, rfl, sqT_mono h.sub hs, k _ _ H G h (.tup hs ha) ?_⟩
        simpa using w5
      · refine .inr ⟨_, j, _, rfl, rfl, sqT_mono h.sub hs, fun e => ?_, by omega, w3, by omega, fun p hp => ?_⟩
        · subst e
          cases ha
          exact w1 rfl
        · exact k _ _ _ _ (h.laidT hp) (.tup (SqT.of upd_same) ((rep_of ha j.toNat).up (h.laidT hp).g0)) w5
    | _ => exact w.elim
  | _ => exact w.elim
/-- text * k -/
def dMulS : PyData → PyData → M PyData
  | .str z, .int k, Q, _ => 2 ≤ k ∧ k ≤ 1000 ∧ (z.length == 0) = false ∧ z.length ≤ 1000 ∧ (repS z k).length ≤ sizeLine ∧ Q (.str (repS z k))
  | _, _, _, _ => False
@[simp] theorem dMulS_1 {z : Str} {k : Int} {Q : PyData → Prop} {E : Value → Prop} : dMulS (.str z) (.int k) Q E = (2 ≤ k ∧ k ≤ 1000 ∧ (z.length == 0) = false ∧ z.length ≤ 1000 ∧ (repS z k).length ≤ sizeLine ∧ Q (.str (repS z k))) := rfl
theorem od_mulS : OpD K T (fun x y H Q => ∃ (z : Str) (k : Int), x = V.str z ∧ y = V.int k ∧ 2 ≤ k ∧ k ≤ 1000 ∧ (z.length == 0) = false ∧ z.length ≤ 1000 ∧ (repS z k).length ≤ sizeLine ∧ Q (V.str (repS z k)) H) dMulS := by
  intro x y d1 d2 H G Qd Ed Q h p1 p2 w k
  cases p1 with
  | str z => cases p2 with
    | int j =>
      obtain ⟨w1, w2, w3, w4, w5, w6⟩ := w
      exact ⟨z, j, rfl, rfl, w1, w2, w3, w4, w5, k _ _ H G h (.str _) w6⟩
    | _ => exact w.elim
  | _ => exact w.elim
/-- one reading or the other -/
@[simp] def dAlt (t u : DE) : DE := fun r Q E => t r Q E ∨ u r Q E
theorem fe_alt (h1 : FE X T E e ta) (h2 : FE X T E e tb) : FE X T E e (dAlt ta tb) := ⟨⟨fun pins s sg H Q I ⟨H0, G0, r, G, Qd, Ed, h, er, w, k, x⟩ => by
  rcases w with w | w
  · exact h1.pe.run pins s sg H Q I ⟨H0, G0, r, G, Qd, Ed, h, er, w, k, x⟩
  · exact h2.pe.run pins s sg H Q I ⟨H0, G0, r, G, Qd, Ed, h, er, w, k, x⟩⟩⟩
@[simp] def dRevT (t : DE) : DE := fun r Q E => t r (fun d => ∃ z : Str, d = .str z ∧ (revS z).length ≤ sizeLine ∧ Q (.str (revS z))) E
theorem fe_revT {k : Nat} {p1 p2 p3 : Pos} (he : FE X T E e te) : FE X T E (.Subscript e (.Slice none none (some (.UnaryOp .USub (.Constant (.int 1) k p1) p2)) p3) pos) (dRevT te) := by
  refine FE.mk' (pe_revT he.pe) fun sg H Q ⟨H0, G0, r, G, Qd, Ed, h, er, w, k, x⟩ => ?_
  refine ⟨H0, G0, r, G, _, Ed, h, er, w, fun d v H1 G1 h1 p1 ⟨z, e, hz, q⟩ => ?_, x⟩
  subst e
  cases p1
  exact ⟨z, rfl, hz, k _ _ H1 G1 h1 (.str _) q⟩
end
end Fd
end
section
set_option Elab.async false
set_option linter.all false
set_option maxRecDepth 100000
set_option autoImplicit false
set_option maxHeartbeats 4000000
/-! Fe2: an exception that leaves a list comprehension: a call in its element let it out. -/
namespace Fd
open PySem PySem.Spec PyProof.Rows L2 LamX
theorem comp_noted {X : Cx} {pins pinsB : List (Addr × Obj)} {sg sgB : L2.St} {H3 H5 : Hp} {s3 s5 sE : Shared} {scope : Scope} {ce : Env} {fp : List Addr} {E : XK} {W : WX} {u : Value}
    (hs : X.stack = X.env :: X.outer) (hf : X.env.frame = some X.env.locals) (hcf : ce.frame = X.env.frame) (hC : s3.heap.objs.size ≤ ce.locals)
    (I3 : Inv X pins sg H3 s3) (f3 : ∀ b ∈ fp, FpOk X pins H3 b) (Ib : Inv (X.blk s3 H3 scope ce fp) pinsB sgB H5 s5)
    (tk : L2.Takes X W) (hW : ∀ cls d H', E cls d H' → W cls d sg H') (c : L2.CX X.prog X.w X.stack H5 s5 E u sE) :
    notedBy (model X.prog X.w) X.A ce (CompFails (model X.prog X.w) X.A X.xe ce) u sE := by
  obtain ⟨a, B, H', cls, d, rfl, fl, hok, ub, na, os, ag, hE⟩ := c
  have hfr : X.A.frames = some (X.env :: X.outer) := by rw [I3.ok.frames, hs]
  show wpAny _ _ (noteFrame (.ref a) ce) _ _ sE
  rw [noteFrame_env _ hcf]
  rw [hs] at fl
  refine HandSPX.looks_onZ Zc.steady hfr hf fl fun h1 held up1 => ?_
  have ltC : ∀ b o, s3.heap.get? b = some o → b ≠ ce.locals := fun b o e z => by
    have h := Heap.lt_size e
    rw [z] at h
    exact absurd (Nat.lt_of_lt_of_le h hC) (Nat.lt_irrefl _)
  have stk3 : ∀ b ∈ frs X.stack, ∃ o, s3.heap.get? b = some o ∧ ∀ vs, o.data ≠ .fields vs := fun b hb => by
    obtain ⟨_, o, e, hn⟩ := I3.stack.mem hb
    exact ⟨o, e, hn⟩
  obtain ⟨mp, ⟨oC, es, ep, eC, dC, rC⟩, _⟩ := Ib.loc
  have eC : s5.heap.get? ce.locals = some oC := eC
  have hC5 : H5 ce.locals = none := Ib.free
  have nCf : ce.locals ∉ frs X.stack := fun z => by
    obtain ⟨o, e, _⟩ := stk3 _ z
    exact ltC _ _ e rfl
  have BC : B.get? ce.locals = some oC := ub.keep _ _ eC hC5 nCf
  have HC : H' ce.locals = none := ub.free _ _ eC hC5
  have h1C : h1.get? ce.locals = some oC := held.1 _ _ BC
  refine ⟨mp, ⟨oC, es, ep, h1C, dC, rC⟩, fun h2 m2 hn2 sb => ?_⟩
  obtain ⟨B', b1, b2⟩ := L2.restrict B fun b => decide (b ≠ ce.locals)
  have toB : ∀ b o, b ≠ ce.locals → B.get? b = some o → B'.get? b = some o := fun b o hb e => by
    rw [b1 b (decide_eq_true hb)]
    exact e
  have ofB : ∀ b o, B'.get? b = some o → b ≠ ce.locals ∧ B.get? b = some o := fun b o e => by
    by_cases hb : b = ce.locals
    · rw [b2 b (decide_eq_false (fun z => z hb))] at e
      cases e
    · rw [b1 b (decide_eq_true hb)] at e
      exact ⟨hb, e⟩
  have noB : ∀ b, B.get? b = none → B'.get? b = none := fun b e => by
    cases q : B'.get? b with
    | none => rfl
    | some o => rw [(ofB b o q).2] at e; cases e
  have held2 : HandSPX.HeldZ B' (X.env :: X.outer) a (Zc cls d) X.env.locals h2 := by
    obtain ⟨k1, k2, k3, oe, vs, T, oT, ts, he, hz, hd, hv1, hnT, hTe, hT, hdT, hv3⟩ := held
    have aC : a ≠ ce.locals := fun z => by
      rw [z, h1C] at he
      cases he
      rw [dC] at hd
      cases hd
    have TC : T ≠ ce.locals := fun z => by
      rw [z, h1C] at hT
      cases hT
      rw [dC] at hdT
      cases hdT
    refine ⟨fun b o e => ?_, noB _ k2, ?_, oe, vs, T, oT, ts, (sb.2 a aC).trans he, hz, hd, hv1, noB _ hnT, hTe, (sb.2 T TC).trans hT, hdT, hv3⟩
    · obtain ⟨hb, e'⟩ := ofB b o e
      exact (sb.2 b hb).trans (k1 b o e')
    · refine funFrames_none (Heap.FunFrames.sameBut sb hn2 k3) fun L hL => noB _ ?_
      exact (k3.mem hL).1
  obtain ⟨k1, k2, k3, oe, vs, T, oT, ts, he, hz, hd, hv1, hnT, hTe, hT, hdT, hv3⟩ := id held2
  unfold PySem.passOn
  refine wpAny_bind (wpAny_field he hd hv1 ?_)
  rw [if_neg (show ¬ ((Value.ref T == Value.none) = true) from by simp)]
  rw [hcf, hf]
  refine wpAny_bind (HandSPX.setFlight_onZ (s := { sE with heap := h2 }) held2 fun h3 held3 up3 => wpAny_throw ?_)
  refine tk _ _ ?_
  obtain ⟨G, g1, g2⟩ := L2.restrict h3 fun b => (B'.get? b).isSome || decide (b ∈ frs X.stack)
  have gB : ∀ b o, B'.get? b = some o → G.get? b = some o := fun b o e => by
    rw [g1 b (by simp [e])]
    exact held3.1 b o e
  have gF : ∀ b, b ∈ frs X.stack → G.get? b = h3.get? b := fun b hb => g1 b (by simp [hb])
  have og : ∀ b o, G.get? b = some o → h3.get? b = some o ∧ ((B'.get? b).isSome = true ∨ b ∈ frs X.stack) := fun b o e => by
    cases q : ((B'.get? b).isSome || decide (b ∈ frs X.stack)) with
    | false => rw [g2 b q] at e; cases e
    | true =>
      rw [g1 b q] at e
      exact ⟨e, by simpa [Bool.or_eq_true] using q⟩
  have slotG : ∀ b o, s3.heap.get? b = some o → H3 b = none → b ∈ frs X.stack → b ∉ fp → ∃ sl, G.get? b = some { o with slots := sl } := fun b o e n hb hc => by
    obtain ⟨o0, e0, hnf⟩ := stk3 b hb
    rw [e] at e0
    cases e0
    obtain ⟨sl1, e1⟩ := Ib.base.slot b o e n hb hc
    obtain ⟨sl2, e2⟩ := ub.slot b _ e1 hb
    obtain ⟨sl3, e3⟩ := up1 b _ e2 hnf
    have e4 := (sb.2 b (ltC b o e)).trans e3
    obtain ⟨sl5, e5⟩ := up3 b _ e4 hnf
    exact ⟨sl5, by rw [gF b hb]; exact e5⟩
  have un : Un (frs X.stack) fp H3 H' s3.heap G := by
    refine ⟨fun b o e n hb hc => ?_, slotG, fun b o e n hc => ?_, fun b o e hc => ?_, fun b xs e => ub.tups b xs (Ib.base.tups b xs e), fun b o u e => ub.frzs b o u (Ib.base.frzs b o u e), fun b ps e => ?_⟩
    · exact gB b o (toB b o (ltC b o e) (ub.keep b o (Ib.base.keep b o e n hb hc) (Ib.base.free b o e n hc) hb))
    · obtain ⟨o5, e5⟩ := Ib.base.there b o e hc
      exact ub.free b o5 e5 (Ib.base.free b o e n hc)
    · by_cases hb : b ∈ frs X.stack
      · obtain ⟨sl, q⟩ := slotG b o e (I3.stkFree b hb) hb hc
        exact ⟨_, q⟩
      · obtain ⟨o5, e5⟩ := Ib.base.there b o e hc
        obtain ⟨o6, e6⟩ := ub.there b o5 e5 hb
        exact ⟨o6, gB b o6 (toB b o6 (ltC b o e) e6)⟩
    · obtain ⟨m1, e1⟩ := Ib.base.tbls b ps e
      obtain ⟨m3, e3⟩ := ub.tbls b _ e1
      exact ⟨m1 ++ m3, by rw [e3, Array.append_assoc]⟩
  have hokG : HOk X.prog X.w H' G := fun b o q => (hok b o q).stay (fun c v hc r => gB c v (toB c v (fun z => by
    rcases hc with hc | hc
    · rw [z] at hc
      rw [← hc, HC] at q
      cases q
    · rw [z, HC] at hc
      cases hc) r)) (fun _ r => r) fun _ _ r => r
  refine ⟨a, B', { s3 with heap := G, gens := sE.gens, drawn := sE.drawn, toks := sE.toks }, pins, sg, H', cls, d, rfl, ?_, fun b o e hb => ?_, Heap.UpToSlots.of_keeps fun b o e => (og b o e).1, .inr (.inr (by rw [hs]; exact held3)), na, ?_, ag, hW _ _ _ hE⟩
  · exact I3.call (ch := fp) un hokG ag fun b hb => ⟨(f3 b hb).2.2.2.1, (f3 b hb).2.1, (f3 b hb).2.2.2.2.1, (f3 b hb).2.2.2.2.2⟩
  · obtain ⟨e', h⟩ := og b o e
    rcases h with h | h
    · obtain ⟨o', q⟩ := Option.isSome_iff_exists.mp h
      have z := held3.1 b o' q
      rw [e'] at z
      cases z
      exact q
    · exact absurd h hb
  · exact os.trans Ib.os

/-- the block of a comprehension whose element may let exceptions Eb out (the way of HandS' lc_core, with the library's comprehension_at) -/
theorem lc_coreX {X : Cx} {pins : List (Addr × Obj)} {s : Shared} {sg : L2.St} {H : Hp} {Q : VK} {elt tg iter : Expr} {ifs : List Expr} {scope : Scope} {own : List (Str × Nat)} {pos pos' : Pos} {wi : TI} {g : TG} {tt : TT} {te : TE} {use : Option (Value → Sem Unit)} {Qf : Value → Shared → Prop} {Eb : XK} {W : WX}
    (hst : X.stack = X.env :: X.outer) (hf : X.env.frame = some X.env.locals) (tk : L2.Takes X W) (hW : ∀ cls d sg H', Eb cls d H' → W cls d sg H')
    (hc : X.calm = true) (hN : X.N.Nodup) (I : Inv X pins sg H s) (hi : PI X tg iter wi) (ok : BlkOk X.N X.env.scope scope own)
    (hg : ∀ (s : Shared) (H : Hp) (C : Addr) (cl : List (Str × Addr)) (fp : List Addr), PG (X.blk s H scope (compEnvC scope cl C X.env) fp) tg g) (ht : ∀ (s : Shared) (H : Hp) (C : Addr) (cl : List (Str × Addr)) (fp : List Addr), PTs (X.blk s H scope (compEnvC scope cl C X.env) fp) ifs tt)
    (he : ∀ (s : Shared) (H : Hp) (C : Addr) (cl : List (Str × Addr)) (fp : List Addr) (xe : Value → Shared → Prop), Passes (L2.CX X.prog X.w) ((X.blk s H scope (compEnvC scope cl C X.env) fp).wish xe) Eb → PE ((X.blk s H scope (compEnvC scope cl C X.env) fp).wish xe) elt te) (hs : ∀ x, foldedSetIterable iter X.env x = pure x)
    (h : tLc wi g tt te (own.map (·.2)) sg H Q)
    (hRR : ∀ D (ce : Env) s' m H', Inv X pins sg H' s' → Q (.ref D) H' → s'.heap.Ns ce.locals m → FpOk X pins H' ce.locals → compEnds (model X.prog X.w) X.A X.xe use Qf (.ref D) ce (.ok .next) s') :
    wpAny (model X.prog X.w) X.A (comprehension (.ListComp elt [⟨tg, iter, ifs, 0⟩] scope pos) scope X.env pos' (newList []) false (eval iter X.env) use) Qf X.xe s := by
  refine comprehension_at (use := use) rfl hs (closure_ok fun y hy e => (ok.free y hy e).elim (fun k => I.ok.has _ (.inl k)) fun k => I.ok.has _ (.inr k)) ok.kind (fun y hy e => by rw [ok.uniq y hy, e])
    (thn (hi.run pins s sg H _ I h) fun xv s1 hx => thn hx fun itv s2 h2 => ?_)
  obtain ⟨it, fp, tn, J, H2, e, I2, T, st2, f2, q⟩ := h2
  subst e
  refine wpAny_newObj_type (newEnv_comp ?_) (by show 0 ≤ sizeLine; decide)
  generalize hD : s2.heap.objs.size = D
  obtain ⟨W1, ⟨m0, w0⟩, turn⟩ := q D (I2.hok.fresh (Nat.le_of_eq hD))
  generalize hs3 : ({ s2 with heap := s2.heap.push { cls := .type "list", data := .seq ([] : List Value).toArray } } : Shared) = s3
  have h3 : s3.heap = s2.heap.push { cls := .type "list", data := .seq ([] : List Value).toArray } := by rw [← hs3]
  have I3 : Inv X pins sg (upd H2 D (.lst [])) s3 := by
    rw [← hs3]
    refine I2.laid (t' := s2.toks) (fun b o e => Heap.get?_push_of_some _ e) (Nat.le_of_eq hD) ⟨Nat.zero_le _, [], 0, .nil, ?_⟩
    rw [← hD]
    exact Heap.get?_push_size _ rfl
  have f3 : ∀ b ∈ fp, FpOk X pins (upd H2 D (.lst [])) b ∧ b < s3.heap.objs.size := fun b hb => by
    obtain ⟨o, e, _⟩ := T.obj _ _ st2 b hb
    have hlt := Heap.lt_size e
    refine ⟨⟨?_, (f2 b hb).2⟩, by rw [h3, Heap.size_push]; exact Nat.lt_succ_of_lt hlt⟩
    rw [upd_ne (by rw [← hD]; exact Nat.ne_of_lt hlt)]
    exact (f2 b hb).1
  have st3 : tn 0 s3.heap := T.keep _ _ _ st2 fun b _ o e => by rw [h3]; exact Heap.get?_push_of_some _ e
  have I4 := block_start I3 ok hN f3
  generalize hcl : cellsFrom (s3.heap.objs.size + 1) scope.names (cloFrom X.env.cells scope.names []) = cl at I4
  have pg := hg s3 (upd H2 D (.lst [])) s3.heap.objs.size cl fp
  have pt := ht s3 (upd H2 D (.lst [])) s3.heap.objs.size cl fp
  have pe := he s3 (upd H2 D (.lst [])) s3.heap.objs.size cl fp
  show codeAny _ _ (.compStart (.ListComp elt [⟨tg, iter, ifs, 0⟩] scope pos) 0 (.ref it) (.ref D) (compEnvC scope cl s3.heap.objs.size X.env)) (compEnds (model X.prog X.w) X.A X.xe use Qf (.ref D) (compEnvC scope cl s3.heap.objs.size X.env)) { s3 with heap := pushCells (s3.heap.push { cls := .type "dict", data := .dict #[] }) scope.names }
  have nfp : ∀ b ∈ fp, (upd H2 D (.lst [])) b = none := fun b hb => (f3 b hb).1.1
  generalize hce : compEnvC scope cl s3.heap.objs.size X.env = ce at I4 pg pt pe ⊢
  have cL : ce.locals = s3.heap.objs.size := by subst hce; rfl
  have cF : ce.frame = X.env.frame := by subst hce; rfl
  generalize hH3 : upd H2 D (.lst []) = H3 at I3 I4 pg pt pe w0 nfp f3
  generalize hs4 : ({ s3 with heap := pushCells (s3.heap.push { cls := .type "dict", data := .dict #[] }) scope.names } : Shared) = s4 at I4 ⊢
  have st4 : tn 0 s4.heap := T.keep _ _ _ st3 fun b _ o e => by rw [← hs4]; exact pushCells_keeps _ _ _ _ (Heap.get?_push_of_some _ e)
  have stat : ∀ {sg' : L2.St} {H' : Hp} {s' : Shared}, Inv (X.blk s3 H3 scope ce fp) [] sg' H' s' → (∀ b ∈ fp, H' b = none) → ∀ b ∈ fp, FpOk (X.blk s3 H3 scope ce fp) [] H' b := fun {sg' H' s'} I' hn b hb =>
    ⟨hn b hb, (I'.ok.exf b hb).1, I'.ok.exfs b hb, .inl hb, fun x c e => (I'.ok.exf b hb).2 x c e, fun p hp => absurd (show p ∈ ([] : List (Addr × Obj)) ++ [] from hp) (by simp)⟩
  have hR : (fun e s' => compEnds (model X.prog X.w) X.A X.xe use Qf (.ref D) ce (.error e) s') = CompFails (model X.prog X.w) X.A X.xe ce := by
    funext e s'
    cases use <;> rfl
  have ps : Passes (L2.CX X.prog X.w) ((X.blk s3 H3 scope ce fp).wish (notedBy (model X.prog X.w) X.A ce (CompFails (model X.prog X.w) X.A X.xe ce))) Eb := fun pinsB sgB H5 s5 u sE IB c =>
    comp_noted hst hf cF (by rw [cL]; exact Nat.le_refl _) I3 (fun b hb => (f3 b hb).1) IB.unwish tk (fun cls d H' h => hW cls d sg H' h) c
  have pe := pe _ ps
  have loop : codeAny (model X.prog X.w) X.A (.compLoop (.ListComp elt [⟨tg, iter, ifs, 0⟩] scope pos) 0 (.ref it) (.ref D) ce) (compEnds (model X.prog X.w) X.A X.xe use Qf (.ref D) ce) s4 := by
    refine compLoop_any (fun n s' => ∃ i H', Inv (X.blk s3 H3 scope ce fp) [] (wipe sg (own.map (·.2))) H' s' ∧ tn i s'.heap ∧ (∀ b ∈ fp, H' b = none) ∧ W1 i n H') ?_ m0 ⟨0, H3, I4, st4, nfp, w0⟩
    rintro n s5 ⟨i, H5, I5, st5, n5, w5⟩
    rw [hR]
    rcases turn i n H5 w5 with ⟨stop, qq⟩ | ⟨go, Nx, hNx, step⟩
    · refine thnF (T.done (X.blk s3 H3 scope ce fp) rfl rfl rfl hc i [] s5 _ H5 (fun _ _ => False) I5 (stat I5 n5) st5 stop) fun r s6 ⟨hr, I6⟩ => ?_
      subst hr
      have I7 : Inv X pins sg H5 s6 := I3.call' (ch := fp) I6.os I6.base I6.hok I6.bare fun b hb => ⟨(f3 b hb).1.2.2.2.1, (f3 b hb).1.2.1, (f3 b hb).1.2.2.2.2.1, (f3 b hb).1.2.2.2.2.2⟩
      obtain ⟨m, hn, _⟩ := I6.loc
      exact hRR D ce s6 m H5 I7 qq hn (I3.fpOk (by rw [cL]; exact Nat.le_refl _) I6.free)
    · refine thnF (T.item (X.blk s3 H3 scope ce fp) rfl rfl rfl hc i [] s5 _ H5 (fun _ _ => False) I5 (stat I5 n5) st5 go) fun r s6 ⟨u, hr, h6⟩ => ?_
      subst hr
      refine thnF h6 fun _ s7 ⟨x, H7, I7, r7, y7, st7, n7⟩ => ?_
      refine thnF (pg.run _ s7 _ H7 x u _ (I7.pinned (stat I7 n7) (T.obj _ _ st7)) r7 (step x H7 y7)) fun _ s8 ⟨sg8, H8, I8, hw8, q8⟩ => ?_
      refine thnF (pt.run _ s8 sg8 H8 _ I8 q8) fun b s9 ⟨H9, I9, q9⟩ => ?_
      have fin : ∀ {s' : Shared} {H' : Hp}, Inv (X.blk s3 H3 scope ce fp) ([] ++ pinsAt fp s7.heap) sg8 H' s' → Nx H' → ∃ m, m < n ∧ ∃ i H', Inv (X.blk s3 H3 scope ce fp) [] (wipe sg (own.map (·.2))) H' s' ∧ tn i s'.heap ∧ (∀ b ∈ fp, H' b = none) ∧ W1 i m H' := fun {s' H'} I' nx => by
        obtain ⟨m', hm, w'⟩ := hNx H' nx
        have pin' : ∀ b ∈ fp, ∀ o, s7.heap.get? b = some o → s'.heap.get? b = some o ∧ H' b = none := fun b hb o e =>
          let z := I'.pin (b, o) (List.mem_append_right _ (List.mem_append_right _ (mem_pinsAt hb e)))
          ⟨z.1, z.2.1⟩
        refine ⟨m', hm, i + 1, H', (I'.unpinned (pins := [])).weak (by rw [← hw8, L2.wipe_length]) (fun j v e => ?_), T.keep _ _ _ st7 fun b hb o e => (pin' b hb o e).1, fun b hb => ?_, w'⟩
        · rw [← hw8] at e
          exact (wipe_some e).1
        · obtain ⟨o, e, _⟩ := T.obj _ _ st7 b hb
          exact (pin' b hb o e).2
      cases b with
      | false =>
        simp only [Bool.false_eq_true, if_false] at q9 ⊢
        exact fin I9 q9
      | true =>
        simp only [if_true] at q9 ⊢
        refine wpAny_mono (pe.run _ s9 sg8 H9 _ (I9.wish _) q9) (fun z s10 ⟨yv, H10, I10, r10, acc, hD10, hz10, nx⟩ => ?_) fun _ _ z => z
        exact app_ok (X := X.blk s3 H3 scope ce fp) I10.unwish hD10 hz10 r10 fun s11 I11 => fin I11 nx
  exact codeAny_compStart_list loop (T.self X.A 0 _ _ _ st4 loop)

def PX (X : Cx) (E : XK) : Prop := Passes (L2.CX X.prog X.w) X (fun cls d H => d = none ∧ ∃ c, cls = clsOf X.K c ∧ E c none H)
def dLcGoX (g : DG) (tt : DT) (te : DE) (r : Ev) (Q : List PyData → Prop) (E : Value → Prop) : List PyData → List PyData → Prop
  | [], acc => Q acc
  | d :: ds, acc => g d r fun r2 => tt r2 (fun b => if b = true then te r2 (fun y => dLcGoX g tt te r Q E ds (acc ++ [y])) E else dLcGoX g tt te r Q E ds acc) (fun _ => False)
@[simp] def dLcX (ti : DA) (g : DG) (tt : DT) (te : DE) (vs : List Nat) : DA := fun r Q E => ti r (fun ds => ds.length ≤ sizeLine ∧ dLcGoX g tt te (wipeD r vs) Q E ds []) E
section
variable {X : Cx} {T : Tb} {E : XK} {e : Expr} {es : List Expr} {pos : Pos}
theorem fe_defP {j k : Nat} {x : Str} {ps : List Str} {p : Pos} {ff : List PyData → M PyData} {ts : DA} (F : OkX X.prog X.w X.K X.mg X.base T k x ps ff) (px : PX X E) (hr : Room j X.A) (hg : Gl X x) (ha : FA X T E (e :: es) ts) (hk : Nat.ble k j = true := by rfl) (hdb : (x == ("__debug__" : Str)) = false := by decide) (he : starEach (e :: es) X.env = (false, eval e X.env) :: starEach es X.env := by rfl)
    (hpl : (backTo pos (starEach es X.env)).any (·.1) = false := by rfl) : FE X T E (.Call (.Name x p) (e :: es) [] pos) (dCall ff ts) := by
  obtain ⟨f, fd, F, hm, hkp, hb⟩ := F
  refine FE.mk' (pe_call F (hr.mono (Nat.le_of_ble_eq_true hk)) hg hm hkp hb .nil px ha.pa hdb he hpl) fun sg H Q ⟨H0, G0, r, G, Qd, Ed, h, er, w, k, x⟩ => ?_
  refine ⟨H0, G0, r, G, _, Ed, h, er, w, fun ds vs H1 G1 h1 p1 w1 => ?_, x⟩
  exact ⟨ds, G1, Qd, Ed, h1.refl, by rw [List.append_nil]; exact p1, w1, fun d v H' G' z => k d v H' G' (h1.trans z), fun c H' G' z q => ⟨rfl, c, rfl, x.up h1 c H' G' z q⟩⟩
theorem lc_ofX {K : PySem.W.Frag} {is vs : List Nat} {ti : DA} {g : DG} {tt : DT} {te : DE} (hv : ∀ i ∈ is, i ∈ vs) : ∀ sg H Q, lfN K T E (dLcX ti g tt te vs) sg H Q → tLc (lfI K T E false ti) (lfG K T is g) (lfT K T E tt) (lf K T E te) vs sg H Q := by
  intro sg H Q ⟨H0, G0, r, G, Qd, Ed, h, er, w, k, x⟩
  refine ⟨H0, G0, r, G, _, Ed, h, er, w, fun ds J P H1 G1 z wk pe _ ⟨hz, q⟩ D hD => ?_, x⟩
  have nD : NT H D := (NT.none hD).back z.ext
  have gD : G1 D = none := by
    cases qq : G1 D with
    | none => rfl
    | some u => rw [z.sub D u qq] at hD; cases hD
  have hOwn : ∀ (j : Nat) es, (wipeD r vs)[j]? = some (.obj es) → (L2.wipe sg vs)[j]? ≠ some (some (.ref D)) := fun j es a b => by
    obtain ⟨p, us, a1, a2, _, _, a3⟩ := (er.wipe vs).obj j es a
    rw [b] at a1
    cases a1
    obtain ⟨ps, q⟩ := nD _ a2
    exact a3.notTbl ps q
  have wl : Walk J ds.length P (fun i H x H' => J.yld i H x H') := ⟨wk.goes, wk.stops, fun _ _ _ _ _ _ y => y⟩
  have ex0 : Same H1 (upd H1 D (.lst [])) := fun b u q => by rw [upd_ne (ne_of_none q hD)]; exact q
  have z0 : HR T H1 G1 (upd H1 D (.lst [])) G1 := z.laidO hD
  refine lc_it wl (fun i Hc => ∃ Gc acc ys, HR T H G Hc Gc ∧ ExtN H1 Hc ∧ Same G1 Gc ∧ ER K H0 (wipeD r vs) (L2.wipe sg vs) Hc Gc ∧ Hc D = some (.lst acc) ∧ Gc D = none ∧ DpAll K Gc acc ys ∧ acc.length ≤ i ∧ dLcGoX g tt te (wipeD r vs) Qd Ed (ds.drop i) ys)
    ⟨G1, [], [], z.trans z0, ExtN.of ex0, Same.refl _, ((er.grow z).grow z0).wipe vs, upd_same, gD, .nil, Nat.le_refl _, q⟩ (fun i Hc _ ⟨_, _, _, _, a, _⟩ => pe Hc a) (fun i v Hc H' hi ⟨Gc, acc, ys, a1, a2, a3, a4, a5, a6, a7, a8, a9⟩ y => ?_) fun Hc ⟨Gc, acc, ys, a1, a2, a3, a4, a5, a6, a7, a8, a9⟩ => ?_
  · obtain ⟨G2, dd, e1, e2, e3⟩ := wk.yields i Hc Gc v H' hi (pe Hc a2) a1.refl a3 y
    rw [drop_at e1] at a9
    refine ⟨H0, G0, wipeD r vs, G2, dd, _, h.trans (a1.trans e2), a4.grow e2, e3, a9, fun r2 sg2 H2 G3 z2 er2 l2 s2 w2 => ⟨wipe_same l2 fun j hj => s2 j fun q => hj (hv j q), ?_⟩⟩
    have b1 := (a1.trans e2).trans z2
    refine ⟨H0, G0, r2, G3, _, _, h.trans b1, er2, w2, fun b H3 G4 z3 w3 => ?_, fun _ _ _ _ q => q.elim⟩
    have c1 := b1.trans z3
    have ec : HR T Hc Gc H3 G4 := (e2.trans z2).trans z3
    have D3 : H3 D = some (.lst acc) := ec.ext D _ a5 fun ps q => by cases q
    have G4D : G4 D = none := ec.noNew a5 a6
    cases b with
    | true =>
      rw [if_pos rfl] at w3
      refine iteT ?_
      refine ⟨H0, G0, r2, G4, _, Ed, h.trans c1, er2.grow z3, w3, fun dy vy H4 G5 z4 py wy => ?_, x.up c1⟩
      have ec4 := ec.trans z4
      have D4 : H4 D = some (.lst acc) := ec4.ext D _ a5 fun ps q => by cases q
      have G5D : G5 D = none := ec4.noNew a5 a6
      refine ⟨acc, D4, by omega, G5, acc ++ [vy], ys ++ [dy], (a1.trans ec4).poke nD D4 G5D, fun b o e1 e2 => ?_, a3.trans ec4.g0, (a4.grow ec4).poke hOwn, upd_same, G5D, (a7.up ec4.g0).app (.cons py .nil), by simp; omega, wy⟩
      rw [upd_ne (fun zz => by subst zz; rw [hD] at e1; cases e1)]
      exact (a2.trans ec4.ext) b o e1 e2
    | false =>
      rw [if_neg Bool.false_ne_true] at w3
      refine iteF ?_
      exact ⟨G4, acc, ys, a1.trans ec, a2.trans ec.ext, a3.trans ec.g0, a4.grow ec, D3, G4D, a7.up ec.g0, by omega, w3⟩
  · rw [List.drop_length] at a9
    exact k ys D acc Hc Gc a1 nD a5 a6 a7 a9
variable {elt tg iter : Expr} {ifs : List Expr} {scope : Scope} {own : List (Str × Nat)} {ti : DA} {g : DG} {tt : DT} {te : DE} {is : List Nat}
theorem fn_lcX (hst : X.stack = X.env :: X.outer) (hf : X.env.frame = some X.env.locals) (tx : TX X E) (hc : X.calm = true) (hN : X.N.Nodup) (hi : FI X T E false tg iter ti) (ok : BlkOk X.N X.env.scope scope own)
    (hg : ∀ (s : Shared) (H : Hp) (C : Addr) (cl : List (Str × Addr)) (fp : List Addr), FG (X.blk s H scope (compEnvC scope cl C X.env) fp) T is tg g) (ht : ∀ (s : Shared) (H : Hp) (C : Addr) (cl : List (Str × Addr)) (fp : List Addr), FTs (X.blk s H scope (compEnvC scope cl C X.env) fp) T E ifs tt)
    (he : ∀ (s : Shared) (H : Hp) (C : Addr) (cl : List (Str × Addr)) (fp : List Addr) (xe : Value → Shared → Prop), PX ((X.blk s H scope (compEnvC scope cl C X.env) fp).wish xe) E → FE ((X.blk s H scope (compEnvC scope cl C X.env) fp).wish xe) T E elt te) (hv : ∀ i ∈ is, i ∈ own.map (·.2) := by decide) (hs : ∀ x, foldedSetIterable iter X.env x = pure x := by intro _; rfl) :
    FN X T E (.ListComp elt [⟨tg, iter, ifs, 0⟩] scope pos) (dLcX ti g tt te (own.map (·.2))) := by
  obtain ⟨W, tk, hW⟩ := tx
  refine FN.mk' (show PE X _ (tLc (lfI X.K T E false ti) (lfG X.K T is g) (lfT X.K T E tt) (lf X.K T E te) (own.map (·.2))) from ⟨fun pins s sg H Q I h => ?_⟩) (lc_ofX hv)
  rw [eval_ListComp]
  refine lc_coreX (Eb := fun cls d H => d = none ∧ ∃ c, cls = clsOf X.K c ∧ E c none H) hst hf tk (fun cls d sg H' ⟨hd, c, hc, q⟩ => by subst hd hc; exact hW c sg H' q) hc hN I hi.pi ok (fun s H C cl fp => (hg s H C cl fp).pg) (fun s H C cl fp => (ht s H C cl fp).pts) (fun s H C cl fp xe p => (he s H C cl fp xe p).pe) hs h fun D ce s' m H' I' q hn f => ⟨m, hn, fun h'' sb => ?_⟩
  obtain ⟨f0, f1, f2, f3, f4, f5⟩ := f
  exact ⟨.ref D, H', I'.turned (t' := s'.toks) (fun b o hb e => (sb.2 b hb).trans e) f0 f1 f3 f4 f5, rfl, q⟩
theorem ps_setLcX {i : Nat} {y : Str} {py spos : Pos} (hst : X.stack = X.env :: X.outer) (hf : X.env.frame = some X.env.locals) (tx : TX X E) (hc : X.calm = true) (hN : X.N.Nodup) (hy : X.N[i]? = some y) (hyl : X.env.scope.names.lookup y = some .local)
    (hsw : swapsWith (.ListComp elt [⟨tg, iter, ifs, 0⟩] scope pos) (some (.Name y py)) spos.line X.env = pure true) (hi : FI X T E false tg iter ti) (ok : BlkOk X.N X.env.scope scope own)
    (hg : ∀ (s : Shared) (H : Hp) (C : Addr) (cl : List (Str × Addr)) (fp : List Addr), FG (X.blk s H scope (compEnvC scope cl C X.env) fp) T is tg g) (ht : ∀ (s : Shared) (H : Hp) (C : Addr) (cl : List (Str × Addr)) (fp : List Addr), FTs (X.blk s H scope (compEnvC scope cl C X.env) fp) T E ifs tt)
    (he : ∀ (s : Shared) (H : Hp) (C : Addr) (cl : List (Str × Addr)) (fp : List Addr) (xe : Value → Shared → Prop), PX ((X.blk s H scope (compEnvC scope cl C X.env) fp).wish xe) E → FE ((X.blk s H scope (compEnvC scope cl C X.env) fp).wish xe) T E elt te) (hs : ∀ x, foldedSetIterable iter X.env x = pure x) :
    PS X (.Assign [.Name y py] (.ListComp elt [⟨tg, iter, ifs, 0⟩] scope pos) spos) (tAsg (tLc (lfI X.K T E false ti) (lfG X.K T is g) (lfT X.K T E tt) (lf X.K T E te) (own.map (·.2))) (gName i)) := by
  obtain ⟨W, tk, hW⟩ := tx
  refine ⟨fun pins s sg H D I h => ?_⟩
  rw [exec_Assign_Name_used _ _ _ _ hsw]
  refine wpAny_bind (wpAny_standAt (wpAny_bind ?_))
  show wpAny _ X.A (do let _ ← comprehension (.ListComp elt [⟨tg, iter, ifs, 0⟩] scope pos) scope X.env (firstIterPos [⟨tg, iter, ifs, 0⟩] pos) (newList []) false (eval iter X.env) (some (assign (.Name y py) X.env))) _ _ s
  have h : tLc (lfI X.K T E false ti) (lfG X.K T is g) (lfT X.K T E tt) (lf X.K T E te) (own.map (·.2)) sg H (fun x H1 => gName i x sg H1 D.nx) := h
  refine wpAny_bind (thn (lc_coreX (Qf := fun _ s' => SP X pins D .next s') (Eb := fun cls d H => d = none ∧ ∃ c, cls = clsOf X.K c ∧ E c none H) hst hf tk (fun cls d sg H' ⟨hd, c, hc, q⟩ => by subst hd hc; exact hW c sg H' q) hc hN I hi.pi ok (fun s H C cl fp => (hg s H C cl fp).pg) (fun s H C cl fp => (ht s H C cl fp).pts) (fun s H C cl fp xe p => (he s H C cl fp xe p).pe) hs h fun L ce s' m H' I' q hn f => ?_) fun _ s' hq => wpAny_pure (wpAny_pure hq))
  show wpAny _ _ (assign (.Name y py) X.env (.ref L)) _ _ _
  refine wpAny_assign_Name (store_ok2 (v := V.ref L) I' hN hy (.inl hyl) rfl (fun s2 I2 ⟨a, sb, ha⟩ => ?_) (.inr hyl))
  obtain ⟨f0, f1, f2, f3, f4, f5⟩ := f
  have haC : ce.locals ≠ a := by
    rcases ha with z | z
    · rw [z]; exact f1
    · exact fun e => f4 y a z e.symm
  refine ⟨m, hn.sameBut sb haC, fun h3 sb3 => ?_⟩
  exact ⟨_, H', I2.turned (t' := s2.toks) (fun b o hb e => (sb3.2 b hb).trans e) f0 f1 f3 f4 f5, q⟩
theorem fs_setLcX {i : Nat} {y : Str} {py spos : Pos} (hst : X.stack = X.env :: X.outer) (hf : X.env.frame = some X.env.locals) (tx : TX X E) (hc : X.calm = true) (hN : X.N.Nodup) (hy : X.N[i]? = some y) (hyl : X.env.scope.names.lookup y = some .local)
    (hsw : swapsWith (.ListComp elt [⟨tg, iter, ifs, 0⟩] scope pos) (some (.Name y py)) spos.line X.env = pure true) (hi : FI X T E false tg iter ti) (ok : BlkOk X.N X.env.scope scope own)
    (hg : ∀ (s : Shared) (H : Hp) (C : Addr) (cl : List (Str × Addr)) (fp : List Addr), FG (X.blk s H scope (compEnvC scope cl C X.env) fp) T is tg g) (ht : ∀ (s : Shared) (H : Hp) (C : Addr) (cl : List (Str × Addr)) (fp : List Addr), FTs (X.blk s H scope (compEnvC scope cl C X.env) fp) T E ifs tt)
    (he : ∀ (s : Shared) (H : Hp) (C : Addr) (cl : List (Str × Addr)) (fp : List Addr) (xe : Value → Shared → Prop), PX ((X.blk s H scope (compEnvC scope cl C X.env) fp).wish xe) E → FE ((X.blk s H scope (compEnvC scope cl C X.env) fp).wish xe) T E elt te) (hv : ∀ i ∈ is, i ∈ own.map (·.2) := by decide) (hs : ∀ x, foldedSetIterable iter X.env x = pure x := by intro _; rfl) :
    FS X T E (.Assign [.Name y py] (.ListComp elt [⟨tg, iter, ifs, 0⟩] scope pos) spos) (dSet i (dAsL (dLcX ti g tt te (own.map (·.2))))) :=
  FS.mk' (ps_setLcX hst hf tx hc hN hy hyl hsw hi ok hg ht he hs) fun D sg H q => lc_ofX hv _ _ _ (asl_of (set_of _ _ _ q))
end
end Fd
end
section
set_option Elab.async false
set_option linter.all false
set_option maxRecDepth 100000
set_option autoImplicit false
set_option maxHeartbeats 4000000
/-! Fg1: instances of Drawer: their methods, by contracts over data (the walk of their few lines by HandS' rules). -/
namespace Fd
open PySem PySem.Spec PyProof.Rows L2 LamX
abbrev DC (K : PySem.W.Frag) : Addr := He.ga K "Drawer"
/-- an instance at p: its maker w, its list at q -/
def Drw (K : PySem.W.Frag) (p q : Addr) (w : V) (ms : List V) (H : Hp) : Prop := (∃ dx, H p = some (.ins (DC K) dx [("maker", w), ("past", .ref q)])) ∧ H q = some (.lst ms)
theorem Drw.ext {K : PySem.W.Frag} {p q : Addr} {w : V} {ms : List V} {H H' : Hp} (d : Drw K p q w ms H) (e : ExtN H H') : Drw K p q w ms H' := by
  obtain ⟨⟨dx, a⟩, b⟩ := d
  exact ⟨⟨dx, e _ _ a fun ps z => by cases z⟩, e _ _ b fun ps z => by cases z⟩
structure DrC (K : PySem.W.Frag) : Prop where
  cls : Cls K (DC K)
  nm : NoAttr K (DC K) "maker"
  np : NoAttr K (DC K) "past"
/-- .. as data -/
structure DrD (K : PySem.W.Frag) (T : Tb) (p q : Addr) (w : V) (ms : List V) (mk : PyData) (past : List PyData) (H G : Hp) : Prop where
  hr : HR T H G H G
  drw : Drw K p q w ms H
  dm : Dp K G w mk
  past : DpAll K G ms past
  gq : G q = none
theorem DrD.grow {K : PySem.W.Frag} {T : Tb} {p q : Addr} {w : V} {ms : List V} {mk : PyData} {past : List PyData} {H G H' G' : Hp} (d : DrD K T p q w ms mk past H G) (h : HR T H G H' G') : DrD K T p q w ms mk past H' G' :=
  ⟨h.refl, d.drw.ext h.ext, d.dm.up h.g0, d.past.up h.g0, h.noNew d.drw.2 d.gq⟩
/-- a method that only tells -/
def spS (K : PySem.W.Frag) (T : Tb) (f : PyData → List PyData → M PyData) : Sp := fun vs H Q E => ∃ p q w ms mk past G Qd, vs = [.ref p] ∧ DrD K T p q w ms mk past H G ∧ f mk past Qd (fun _ => False) ∧
  ∀ d v H' G', HR T H G H' G' → Dp K G' v d → Qd d → Q v H'
/-- a method that changes the list (or lets an exception out, nothing changed) -/
def spE (K : PySem.W.Frag) (T : Tb) (f : PyData → List PyData → List PyData → (PyData → List PyData → Prop) → (Value → Prop) → Prop) : Sp := fun vs H Q E => ∃ p q w ms mk past args ds G Qd Ed, vs = .ref p :: args ∧ DrD K T p q w ms mk past H G ∧ DpAll K G args ds ∧ f mk past ds Qd Ed ∧
  (∀ d v ms' past' H' G', HR T H G H' G' → Dp K G' v d → DpAll K G' ms' past' → Qd d past' → Q v (upd H' q (.lst ms'))) ∧ Xc T (fun c d H => E (clsOf K c) d H) H G Ed
/-- the method m of Drawer -/
def OkMe (P : Program) (w : World) (K : PySem.W.Frag) (mg : Str → Option Value) (base : Heap) (k : Nat) (m : Str) (ps : List Str) (sp : Sp) : Prop :=
  ∃ f fd, FnOk P w K mg base (L2.CX P w) k f fd ps sp ∧ Meth K (DC K) m f ∧ Binds K fd ps []
/-- the j-th part of the last item -/
def fLast (j : Nat) : PyData → List PyData → M PyData := fun _ past Q _ => ∃ ds d, past.getLast? = some (.tuple ds) ∧ ds[j]? = some d ∧ Q d
theorem last_of {K : PySem.W.Frag} {G : Hp} {ms : List V} {past : List PyData} {d : PyData} (h : DpAll K G ms past) (e : past.getLast? = some d) : ∃ v, atI ms (-1) = some v ∧ Dp K G v d := by
  have hd : atI past (-1) = some d := Fd.atI_neg1 e
  exact atI_of h hd
section
variable {X : Cx} {T : Tb}
/-- self.past[-1] -/
theorem last_te {K : PySem.W.Frag} {p q : Addr} {w : V} {ms : List V} {mk : PyData} {past : List PyData} {H G : Hp} {sg : L2.St} {d : PyData} {Q : VK} (c : DrC K) (D : DrD K T p q w ms mk past H G) (hs : sg[0]? = some (some (.ref p))) (e : past.getLast? = some d)
    (h : ∀ v, Dp K G v d → Q v H) : tOp (rIx K) (tFld K (tVar 0) "past") (tUn (rU fun i => .int (-i)) (tC (.int 1))) sg H Q := by
  obtain ⟨v, hv, dv⟩ := last_of D.past e
  obtain ⟨⟨dx, a⟩, b⟩ := D.drw
  exact ⟨.ref p, hs, p, DC K, dx, _, .ref q, rfl, a, c.cls, c.np, rfl, 1, rfl, .inl ⟨q, ms, -1, v, rfl, rfl, SqL.of b, hv, h v dv⟩⟩
theorem part_te {K : PySem.W.Frag} {p q : Addr} {w : V} {ms : List V} {mk : PyData} {past ds : List PyData} {H G : Hp} {sg : L2.St} {d : PyData} {j : Nat} {Q : VK} (c : DrC K) (D : DrD K T p q w ms mk past H G) (hs : sg[0]? = some (some (.ref p))) (e : past.getLast? = some (.tuple ds)) (hj : ds[j]? = some d)
    (h : ∀ v, Dp K G v d → Q v H) : tOp (rIx K) (tOp (rIx K) (tFld K (tVar 0) "past") (tUn (rU fun i => .int (-i)) (tC (.int 1)))) (tC (.int (j : Int))) sg H Q := by
  refine last_te c D hs e fun v dv => ?_
  cases dv with
  | tup hq ha =>
    obtain ⟨u, hu, du⟩ := atI_of ha (Fd.atI_nat hj)
    exact .inr (.inl ⟨_, _, (j : Int), u, rfl, rfl, sqT_mono D.hr.sub hq, hu, h u du⟩)
end

/-- the slots where a method starts: self is not data -/
theorem ER.no1 {K : PySem.W.Frag} {H0 H G : Hp} {r : Ev} {sg : L2.St} (e : ER K H0 r sg H G) (o : Option V) : ER K H0 (.no :: r) (o :: sg) H G := by
  refine ⟨by simp [e.len], fun i d h => ?_, fun i d h => ?_, fun i j a b p h1 h2 h3 h4 => ?_, fun i f h => ?_⟩
  · cases i with
    | zero => simp at h
    | succ i => simpa using e.dat i d (by simpa using h)
  · cases i with
    | zero => simp at h
    | succ i => simpa using e.obj i d (by simpa using h)
  · cases i with
    | zero => simp at h1
    | succ i => cases j with
      | zero => simp at h2
      | succ j => simpa using e.inj i j a b p (by simpa using h1) (by simpa using h2) (by simpa using h3) (by simpa using h4)
  · cases i with
    | zero => simp at h
    | succ i => simpa using e.fct i f (by simpa using h)
def startM (n : Nat) (ds : List PyData) : Ev := .no :: (ds.map .dat ++ List.replicate (n - (ds.length + 1)) .no)
theorem er_startM {K : PySem.W.Frag} {T : Tb} {H G : Hp} {N : List Str} {v : V} {vs : List V} {ds : List PyData} (a : DpAll K G vs ds) : ER K H (startM N.length ds) (L2.start N (v :: vs)) H G := by
  have e := (er_start (T := T) (H := H) (N := N.tail) a).no1 (some v)
  have h1 : L2.start N (v :: vs) = some v :: L2.start N.tail vs := by
    unfold L2.start
    simp only [List.map_cons, List.cons_append, List.length_cons, List.length_tail]
    rw [show N.length - (vs.length + 1) = N.length - 1 - vs.length by omega]
  have h2 : startM N.length ds = .no :: startD N.tail ds := by
    unfold startM startD
    simp only [List.length_tail]
    rw [show N.length - (ds.length + 1) = N.length - 1 - ds.length by omega]
  rw [h1, h2]
  exact e
section
variable {P : Program} {w : World} {K : PySem.W.Frag} {mg : Str → Option Value} {base : Heap} {T : Tb}
abbrev tLast (K : PySem.W.Frag) : TE := tOp (rIx K) (tFld K (tVar 0) "past") (tUn (rU fun i => .int (-i)) (tC (.int 1)))
/-- return self.past[-1][j] -/
theorem mkS {m qual : Str} {st : Stmt} {f : Addr} {N : List Str} {k j : Nat} (c : DrC K) (F : ∃ fd, FunD K m qual (defArgs st) (defBody st) (defScope st) [] [] f fd) (hM : Meth K (DC K) m f) (S : FnScope N ["self"] (defScope st))
    (hbind : ∀ (kV doc pm : Value) (an : Option Addr) (cdv ct : Value) (us : List Value), us.length = (["self"] : List Str).length → bindArgs (PySem.W.fnOf m qual (defArgs st) (defBody st) (defScope st) .none kV doc pm an cdv ct) ⟨us, []⟩ = pure ((["self"] : List Str).zip us))
    (hb : ∀ (cdv : Value) (A : Around) (outer : List Env) (s : Shared) (H : Hp) (E : XK), PSs (cxOf (L2.CX P w) P w K mg base N qual (defScope st) f cdv A outer s H E) (defBody st) (tRet (tOp (rIx K) (tLast K) (tC (.int (j : Int)))))) :
    OkMe P w K mg base (k + 1) m ["self"] (spS K T (fLast j)) := by
  obtain ⟨fd, F⟩ := F
  refine ⟨f, fd, ?_, hM, F.bindsN hbind⟩
  obtain ⟨oc, od, dV, kV, doc, pm, an, cdv, ct, osl, rfl, lk, hcd, _, _⟩ := F.ex
  refine fn_of lk hcd S (fun vs H Q E ⟨p, q, w, ms, mk, past, G, Qd, e, _⟩ => by rw [e]; rfl) fun A outer s H vs Q E hr ⟨p, q, w, ms, mk, past, G, Qd, e, D, ⟨ds, d, e1, e2, hq⟩, kk⟩ => ⟨_, hb cdv A outer s H E, ?_⟩
  subst e
  exact part_te c D rfl e1 e2 fun v dv => kk d v H G D.hr dv hq
/-- go: the last item read, a new one put behind it -/
def fGo : PyData → List PyData → List PyData → (PyData → List PyData → Prop) → (Value → Prop) → Prop := fun _ past ds Q _ => ∃ st m l' a n l, ds = [st, .int m, .tuple l'] ∧ past.getLast? = some (.tuple [a, .int n, .tuple l]) ∧
  3 ≤ sizeLine ∧ l.length + l'.length ≤ sizeLine ∧ past.length < sizeLine ∧ Q .none (past ++ [.tuple [st, .int (n + m), .tuple (l ++ l')]])
abbrev dGoIt : DE := dTup (dCons (dVar 1) (dCons (dOp dAdd (dVar 5) (dVar 2)) (dCons (dOp dAdd (dVar 6) (dVar 3)) dNil)))
abbrev dgGo : DG := dgTup 3 (dgCons (dgName 4) (dgCons (dgName 5) (dgCons (dgName 6) dgNil)))
theorem mkGo {m qual : Str} {st : Stmt} {f : Addr} {N : List Str} {is : List Nat} {k : Nat} {E0 : XK → XK} (c : DrC K) (hN : N.length = 7) (F : ∃ fd, FunD K m qual (defArgs st) (defBody st) (defScope st) [] [] f fd) (hM : Meth K (DC K) m f) (S : FnScope N ["self", "stand", "many", "told"] (defScope st))
    (hbind : ∀ (kV doc pm : Value) (an : Option Addr) (cdv ct : Value) (us : List Value), us.length = (["self", "stand", "many", "told"] : List Str).length → bindArgs (PySem.W.fnOf m qual (defArgs st) (defBody st) (defScope st) .none kV doc pm an cdv ct) ⟨us, []⟩ = pure ((["self", "stand", "many", "told"] : List Str).zip us))
    (his : 0 ∉ is)
    (hb : ∀ (cdv : Value) (A : Around) (outer : List Env) (s : Shared) (H : Hp) (E : XK), PSs (cxOf (L2.CX P w) P w K mg base N qual (defScope st) f cdv A outer s H E) (defBody st)
      (tSeq (tAsg (tLast K) (lfG K T is dgGo)) (tDrop (tBM K "list" rAppend (tFld K (tVar 0) "past") (tCons (lf K T (E0 E) dGoIt) tNil))))) :
    OkMe P w K mg base (k + 1) m ["self", "stand", "many", "told"] (spE K T fGo) := by
  obtain ⟨fd, F⟩ := F
  refine ⟨f, fd, ?_, hM, F.bindsN hbind⟩
  obtain ⟨oc, od, dV, kV, doc, pm, an, cdv, ct, osl, rfl, lk, hcd, _, _⟩ := F.ex
  refine fn_of lk hcd S (fun vs H Q E ⟨p, q, w, ms, mk, past, args, ds, G, Qd, Ed, e, D, ha, ⟨_, _, _, _, _, _, ed, _⟩, _⟩ => by rw [e, List.length_cons, ha.len, ed]; rfl) fun A outer s H vs Q E hr ⟨p, q, w, ms, mk, past, args, ds, G, Qd, Ed, e, D, ha, ⟨st', m', l', a, n, l, ed, e1, l3, l4, l5, hq⟩, kk, xx⟩ => ⟨_, hb cdv A outer s H E, ?_⟩
  subst e ed
  refine last_te c D rfl e1 fun v dv => ?_
  have er := er_startM (T := T) (H := H) (N := N) (v := .ref p) ha
  refine ⟨H, G, _, G, _, fun r' => r' = [.no, .dat st', .dat (.int m'), .dat (.tuple l'), .dat a, .dat (.int n), .dat (.tuple l)], D.hr, er, dv, ?_, fun r2 sg2 H2 G2 z2 er2 len2 keep2 w2 => ?_⟩
  · rw [hN]
    simp [startM, List.replicate]
    exact ⟨_, _, ⟨rfl, rfl⟩, _, _, rfl, _, _, rfl, rfl, rfl, rfl, rfl⟩
  · subst w2
    have D2 := D.grow z2
    obtain ⟨⟨dx, b1⟩, b2⟩ := D2.drw
    have h0 : sg2[0]? = some (some (.ref p)) := by rw [keep2 0 his]; rfl
    refine ⟨.ref p, h0, p, DC K, dx, _, .ref q, rfl, b1, c.cls, c.np, rfl, .inl ⟨rfl, ms, SqL.of b2⟩, ?_⟩
    refine ⟨H, G, _, G2, fun d => d = .tuple [st', .int (n + m'), .tuple (l ++ l')], fun _ => False, z2, er2, ?_, fun d v2 H3 G3 z3 p3 hd => ?_, fun _ _ _ _ z => z.elim⟩
    · simp [l3, l4]
    · subst hd
      have D3 := D2.grow z3
      exact ⟨q, ms, v2, rfl, rfl, D3.drw.2, by rw [D.past.len]; exact l5, kk .none .non (ms ++ [v2]) _ H3 G3 (z2.trans z3) .non (D3.past.app (.cons p3 .nil)) hq⟩
end
end Fd
end
section
set_option Elab.async false
set_option linter.all false
set_option maxRecDepth 100000
set_option autoImplicit false
set_option maxHeartbeats 4000000
/-! Fg2: the other methods of Drawer. -/
namespace Fd
open PySem PySem.Spec PyProof.Rows L2 LamX
abbrev noX : XK := fun _ _ _ => False
section
variable {K : PySem.W.Frag} {T : Tb} {p q : Addr} {w : V} {ms : List V} {mk : PyData} {past : List PyData} {H G : Hp} {sg : L2.St} {Q : VK} {E E' : XK}
theorem mk_te (c : DrC K) (D : DrD K T p q w ms mk past H G) (hs : sg[0]? = some (some (.ref p))) (h : Q w H) : tFld K (tVar 0) "maker" sg H Q := by
  obtain ⟨⟨dx, a⟩, b⟩ := D.drw
  exact ⟨.ref p, hs, p, DC K, dx, _, w, rfl, a, c.cls, c.nm, rfl, h⟩
theorem look_none {m : Str} (hm : (m == "maker") = false ∧ (m == "past") = false) : ([("maker", w), ("past", V.ref q)] : List (Str × V)).lookup m = none := by
  simp [List.lookup, hm.1, hm.2]
theorem st_te {m : Str} {j : Nat} {ds : List PyData} {d : PyData} (hm : (m == "maker") = false ∧ (m == "past") = false) (D : DrD K T p q w ms mk past H G) (hs : sg[0]? = some (some (.ref p))) (e1 : past.getLast? = some (.tuple ds)) (e2 : ds[j]? = some d)
    (h : ∀ v H' G', HR T H G H' G' → Dp K G' v d → Q v H') : tMeth (DC K) m (spS K T (fLast j)) [] E (tVar 0) tNil sg H Q := by
  obtain ⟨⟨dx, a⟩, b⟩ := D.drw
  refine ⟨.ref p, hs, p, dx, _, rfl, a, look_none hm, p, q, w, ms, mk, past, G, fun d' => d' = d, rfl, D, ⟨ds, d, e1, e2, rfl⟩, fun d' v H' G' z pp hd => ?_⟩
  subst hd
  exact h v H' G' z pp
abbrev tMS (K : PySem.W.Frag) (T : Tb) (t : TA) : TA := tCons (tFld K (tVar 0) "maker") (tCons (tMeth (DC K) "stand" (spS K T (fLast 0)) [] noX (tVar 0) tNil) t)
/-- ff(self.maker, self.stand()) -/
theorem ms_te {ff : List PyData → M PyData} {ds : List PyData} {a : PyData} {Qd : PyData → Prop} {Ed : Value → Prop} (c : DrC K) (D : DrD K T p q w ms mk past H G) (hs : sg[0]? = some (some (.ref p))) (e1 : past.getLast? = some (.tuple ds)) (e2 : ds[0]? = some a)
    (hf : ff [mk, a] Qd Ed) (k : ∀ d v H' G', HR T H G H' G' → Dp K G' v d → Qd d → Q v H') (x : Xc T E H G Ed) : tCall (spF K T ff) [] E (tMS K T tNil) sg H Q := by
  dsimp only [tCall, tMS, tCons]
  refine mk_te c D hs ?_
  refine st_te (m := "stand") ⟨by decide, by decide⟩ D hs e1 e2 fun v H' G' z dv => ?_
  exact ⟨[mk, a], G', Qd, Ed, z.refl, .cons (D.dm.up z.g0) (.cons dv .nil), hf, fun d v H2 G2 z2 => k d v H2 G2 (z.trans z2), fun c H2 G2 z2 => x c H2 G2 (z.trans z2)⟩
/-- ff(self.maker, self.stand(), x) -/
theorem ms3x_te {ff : List PyData → M PyData} {ds : List PyData} {a b : PyData} {u : V} {i : Nat} {Qd : PyData → Prop} {Ed : Value → Prop} (c : DrC K) (D : DrD K T p q w ms mk past H G) (hs : sg[0]? = some (some (.ref p))) (e1 : past.getLast? = some (.tuple ds)) (e2 : ds[0]? = some a)
    (hu : sg[i]? = some (some u)) (db : Dp K G u b) (hf : ff [mk, a, b] Qd Ed) (k : ∀ d v H' G', HR T H G H' G' → Dp K G' v d → Qd d → Q v H') (x : Xc T (fun c d H => E (clsOf K c) d H) H G Ed) : tCall (spX K T ff) [] E (tMS K T (tCons (tVar i) tNil)) sg H Q := by
  dsimp only [tCall, tMS, tCons]
  refine mk_te c D hs ?_
  refine st_te (m := "stand") ⟨by decide, by decide⟩ D hs e1 e2 fun v H' G' z dv => ?_
  exact ⟨u, hu, [mk, a, b], G', Qd, Ed, z.refl, .cons (D.dm.up z.g0) (.cons dv (.cons (db.up z.g0) .nil)), hf, fun d v H2 G2 z2 => k d v H2 G2 (z.trans z2), fun c H2 G2 z2 => x c H2 G2 (z.trans z2)⟩
theorem ms3_te {ff : List PyData → M PyData} {ds : List PyData} {a b : PyData} {u : V} {i : Nat} {Qd : PyData → Prop} {Ed : Value → Prop} (c : DrC K) (D : DrD K T p q w ms mk past H G) (hs : sg[0]? = some (some (.ref p))) (e1 : past.getLast? = some (.tuple ds)) (e2 : ds[0]? = some a)
    (hu : sg[i]? = some (some u)) (db : Dp K G u b) (hf : ff [mk, a, b] Qd Ed) (k : ∀ d v H' G', HR T H G H' G' → Dp K G' v d → Qd d → Q v H') (x : Xc T E H G Ed) : tCall (spF K T ff) [] E (tMS K T (tCons (tVar i) tNil)) sg H Q := by
  dsimp only [tCall, tMS, tCons]
  refine mk_te c D hs ?_
  refine st_te (m := "stand") ⟨by decide, by decide⟩ D hs e1 e2 fun v H' G' z dv => ?_
  exact ⟨u, hu, [mk, a, b], G', Qd, Ed, z.refl, .cons (D.dm.up z.g0) (.cons dv (.cons (db.up z.g0) .nil)), hf, fun d v H2 G2 z2 => k d v H2 G2 (z.trans z2), fun c H2 G2 z2 => x c H2 G2 (z.trans z2)⟩

/-- self.go(..) -/
theorem go_te {t : TA} (D : DrD K T p q w ms mk past H G) (hs : sg[0]? = some (some (.ref p))) (h : t sg H fun vs H1 => spE K T fGo (.ref p :: (vs ++ [])) H1 Q E') : tMeth (DC K) "go" (spE K T fGo) [] E' (tVar 0) t sg H Q := by
  obtain ⟨⟨dx, a⟩, b⟩ := D.drw
  exact ⟨.ref p, hs, p, dx, _, rfl, a, look_none ⟨by decide, by decide⟩, h⟩
theorem go_sp {vs : List V} {ds : List PyData} {Qd : PyData → List PyData → Prop} (D : DrD K T p q w ms mk past H G) (ha : DpAll K G vs ds) (hf : fGo mk past ds Qd (fun _ => False))
    (k : ∀ d v ms' past' H' G', HR T H G H' G' → Dp K G' v d → DpAll K G' ms' past' → Qd d past' → Q v (upd H' q (.lst ms'))) : spE K T fGo (.ref p :: (vs ++ [])) H Q E' :=
  ⟨p, q, w, ms, mk, past, vs, ds, G, Qd, fun _ => False, by rw [List.append_nil], D, ha, hf, k, fun _ _ _ _ z => z.elim⟩
end

section
variable {P : Program} {w : World} {K : PySem.W.Frag} {mg : Str → Option Value} {base : Heap} {T : Tb}
/-- draw -/
def fDraw (fF fS : List PyData → M PyData) : PyData → List PyData → List PyData → (PyData → List PyData → Prop) → (Value → Prop) → Prop := fun mk past ds Q _ => ds = [] ∧ ∃ a n l, past.getLast? = some (.tuple [a, .int n, .tuple l]) ∧
  fF [mk, a] (fun d => fS [mk, a] (fun st => 3 ≤ sizeLine ∧ l.length + 1 ≤ sizeLine ∧ past.length < sizeLine ∧ Q d (past ++ [.tuple [st, .int (n + 1), .tuple (l ++ [d])]])) (fun _ => False)) (fun _ => False)
theorem mkDraw {m qual : Str} {st : Stmt} {f : Addr} {N : List Str} {k : Nat} {E0 : XK → XK} {fF fS : List PyData → M PyData} (c : DrC K) (hN : N.length = 2) (F : ∃ fd, FunD K m qual (defArgs st) (defBody st) (defScope st) [] [] f fd) (hM : Meth K (DC K) m f) (S : FnScope N ["self"] (defScope st))
    (hbind : ∀ (kV doc pm : Value) (an : Option Addr) (cdv ct : Value) (us : List Value), us.length = (["self"] : List Str).length → bindArgs (PySem.W.fnOf m qual (defArgs st) (defBody st) (defScope st) .none kV doc pm an cdv ct) ⟨us, []⟩ = pure ((["self"] : List Str).zip us))
    (hb : ∀ (cdv : Value) (A : Around) (outer : List Env) (s : Shared) (H : Hp) (E : XK), Room k (A.deeper (envOfC qual (defScope st) s.heap.objs.size f cdv)) → PSs (cxOf (L2.CX P w) P w K mg base N qual (defScope st) f cdv A outer s H E) (defBody st)
      (tSeq (tAsg (tCall (spF K T fF) [] noX (tMS K T tNil)) (gName 1)) (tSeq (tDrop (tMeth (DC K) "go" (spE K T fGo) [] noX (tVar 0) (tCons (tCall (spF K T fS) [] noX (tMS K T tNil)) (tCons (tC (.int 1)) (tCons (lf K T (E0 E) (dTup (dCons (dVar 1) dNil))) tNil))))) (tRet (tVar 1))))) :
    OkMe P w K mg base (k + 1) m ["self"] (spE K T (fDraw fF fS)) := by
  obtain ⟨fd, F⟩ := F
  refine ⟨f, fd, ?_, hM, F.bindsN hbind⟩
  obtain ⟨oc, od, dV, kV, doc, pm, an, cdv, ct, osl, rfl, lk, hcd, _, _⟩ := F.ex
  refine fn_of lk hcd S (fun vs H Q E ⟨p, q, w, ms, mk, past, args, ds, G, Qd, Ed, e, D, ha, ⟨ed, _⟩, _⟩ => by rw [e, List.length_cons, ha.len, ed]; rfl) fun A outer s H vs Q E hr ⟨p, q, w, ms, mk, past, args, ds, G, Qd, Ed, e, D, ha, ⟨ed, a, n, l, e1, hf⟩, kk, xx⟩ => ⟨_, hb cdv A outer s H E hr, ?_⟩
  subst e ed
  cases ha
  refine ms_te c D rfl e1 rfl hf (fun d v H1 G1 z1 p1 hS => ?_) (fun _ _ _ _ z => z.elim)
  have D1 := D.grow z1
  have hsg : (L2.start N [V.ref p]).set 1 (some v) = [some (.ref p), some v] := by
    unfold L2.start
    rw [hN]
    rfl
  show tSeq _ _ _ ((L2.start N [V.ref p]).set 1 (some v)) H1
  rw [hsg]
  refine go_te D1 rfl (ms_te c D1 rfl e1 rfl hS (fun st' v2 H2 G2 z2 p2 ⟨l3, l4, l5, hq⟩ => ?_) (fun _ _ _ _ z => z.elim))
  have D2 := D1.grow z2
  have er2 : ER K H2 [.no, .dat d] [some (.ref p), some v] H2 G2 := by
    have := er_startM (T := T) (H := H2) (N := ["a", "b"]) (v := .ref p) (vs := [v]) (ds := [d]) (G := G2) (K := K) (.cons (p1.up z2.g0) .nil)
    exact this
  refine ⟨H2, G2, _, G2, fun x => x = .tuple [d], fun _ => False, D2.hr, er2, by simp; omega, fun x v3 H3 G3 z3 p3 hx => ?_, fun _ _ _ _ z => z.elim⟩
  subst hx
  have D3 := D2.grow z3
  refine go_sp (ds := [st', .int 1, .tuple [d]]) (Qd := fun x past' => x = .none ∧ past' = past ++ [.tuple [st', .int (n + 1), .tuple (l ++ [d])]]) D3 (.cons (p2.up z3.g0) (.cons (.int 1) (.cons p3 .nil))) ⟨st', 1, [d], a, n, l, rfl, e1, l3, by simpa using l4, l5, rfl, rfl⟩ fun x v4 ms' past' H4 G4 z4 p4 pm4 ⟨_, hp⟩ => ?_
  subst hp
  exact ⟨v, rfl, kk d v ms' _ H4 G4 (((z1.trans z2).trans z3).trans z4) (p1.up ((z2.g0.trans z3.g0).trans z4.g0)) pm4 hq⟩
/-- skip -/
def fSkip (fB : List PyData → M PyData) : PyData → List PyData → List PyData → (PyData → List PyData → Prop) → (Value → Prop) → Prop := fun mk past ds Q _ => ∃ m a n l, ds = [.int m] ∧ past.getLast? = some (.tuple [a, .int n, .tuple l]) ∧
  fB [mk, a, .int m] (fun st => 3 ≤ sizeLine ∧ l.length ≤ sizeLine ∧ past.length < sizeLine ∧ Q .none (past ++ [.tuple [st, .int (n + m), .tuple l]])) (fun _ => False)
theorem mkSkip {m qual : Str} {st : Stmt} {f : Addr} {N : List Str} {k : Nat} {E0 : XK → XK} {fB : List PyData → M PyData} (c : DrC K) (hN : N.length = 2) (F : ∃ fd, FunD K m qual (defArgs st) (defBody st) (defScope st) [] [] f fd) (hM : Meth K (DC K) m f) (S : FnScope N ["self", "many"] (defScope st))
    (hbind : ∀ (kV doc pm : Value) (an : Option Addr) (cdv ct : Value) (us : List Value), us.length = (["self", "many"] : List Str).length → bindArgs (PySem.W.fnOf m qual (defArgs st) (defBody st) (defScope st) .none kV doc pm an cdv ct) ⟨us, []⟩ = pure ((["self", "many"] : List Str).zip us))
    (hb : ∀ (cdv : Value) (A : Around) (outer : List Env) (s : Shared) (H : Hp) (E : XK), Room k (A.deeper (envOfC qual (defScope st) s.heap.objs.size f cdv)) → PSs (cxOf (L2.CX P w) P w K mg base N qual (defScope st) f cdv A outer s H E) (defBody st)
      (tDrop (tMeth (DC K) "go" (spE K T fGo) [] noX (tVar 0) (tCons (tCall (spF K T fB) [] noX (tMS K T (tCons (tVar 1) tNil))) (tCons (tVar 1) (tCons (lf K T (E0 E) (dTup dNil)) tNil)))))) :
    OkMe P w K mg base (k + 1) m ["self", "many"] (spE K T (fSkip fB)) := by
  obtain ⟨fd, F⟩ := F
  refine ⟨f, fd, ?_, hM, F.bindsN hbind⟩
  obtain ⟨oc, od, dV, kV, doc, pm, an, cdv, ct, osl, rfl, lk, hcd, _, _⟩ := F.ex
  refine fn_of lk hcd S (fun vs H Q E ⟨p, q, w, ms, mk, past, args, ds, G, Qd, Ed, e, D, ha, ⟨_, _, _, _, ed, _⟩, _⟩ => by rw [e, List.length_cons, ha.len, ed]; rfl) fun A outer s H vs Q E hr ⟨p, q, w, ms, mk, past, args, ds, G, Qd, Ed, e, D, ha, ⟨m', a, n, l, ed, e1, hf⟩, kk, xx⟩ => ⟨_, hb cdv A outer s H E hr, ?_⟩
  subst e ed
  obtain ⟨u, rfl, hu⟩ : ∃ u, args = [u] ∧ Dp K G u (.int m') := by
    cases ha with
    | cons hu ht => cases ht; exact ⟨_, rfl, hu⟩
  refine go_te D rfl (ms3_te (i := 1) c D rfl e1 rfl rfl hu hf (fun st' v2 H2 G2 z2 p2 ⟨l3, l4, l5, hq⟩ => ?_) (fun _ _ _ _ z => z.elim))
  have D2 := D.grow z2
  have er2 : ER K H2 (startM N.length [.int m']) (L2.start N [.ref p, u]) H2 G2 := er_startM (T := T) (.cons (hu.up z2.g0) .nil)
  refine ⟨u, rfl, H2, G2, _, G2, fun x => x = .tuple [], fun _ => False, D2.hr, er2, by simp, fun x v3 H3 G3 z3 p3 hx => ?_, fun _ _ _ _ z => z.elim⟩
  subst hx
  have D3 := D2.grow z3
  refine go_sp (ds := [st', .int m', .tuple []]) (Qd := fun x past' => x = .none ∧ past' = past ++ [.tuple [st', .int (n + m'), .tuple l]]) D3 (.cons (p2.up z3.g0) (.cons ((hu.up z2.g0).up z3.g0) (.cons p3 .nil))) ⟨st', m', [], a, n, l, rfl, e1, l3, by simpa using l4, l5, rfl, by simp⟩ fun x v4 ms' past' H4 G4 z4 p4 pm4 ⟨hx, hp⟩ => ?_
  subst hp hx
  cases p4
  exact kk .none .non ms' _ H4 G4 ((z2.trans z3).trans z4) .non pm4 hq
/-- number -/
def fNum (fB : List PyData → M PyData) : PyData → List PyData → List PyData → (PyData → List PyData → Prop) → (Value → Prop) → Prop := fun mk past ds Q E => ∃ b a n l, ds = [b] ∧ past.getLast? = some (.tuple [a, .int n, .tuple l]) ∧
  fB [mk, a, b] (fun x => ∃ d st m, x = .tuple [d, st, .int m] ∧ 3 ≤ sizeLine ∧ l.length + 1 ≤ sizeLine ∧ past.length < sizeLine ∧ Q d (past ++ [.tuple [st, .int (n + m), .tuple (l ++ [d])]])) E
abbrev dgNum : DG := dgTup 3 (dgCons (dgName 2) (dgCons (dgName 3) (dgCons (dgName 4) dgNil)))
/-- what a body wants of the exceptions that a def lets out -/
abbrev exW (K : PySem.W.Frag) (E : XK) : XK := fun cls d H => d = none ∧ ∃ c, cls = clsOf K c ∧ E (clsOf K c) none H
theorem mkNum {m qual : Str} {st : Stmt} {f : Addr} {N : List Str} {is : List Nat} {k : Nat} {E0 : XK → XK} {fB : List PyData → M PyData} (c : DrC K) (hN : N.length = 5) (his : 0 ∉ is) (F : ∃ fd, FunD K m qual (defArgs st) (defBody st) (defScope st) [] [] f fd) (hM : Meth K (DC K) m f) (S : FnScope N ["self", "bound"] (defScope st))
    (hbind : ∀ (kV doc pm : Value) (an : Option Addr) (cdv ct : Value) (us : List Value), us.length = (["self", "bound"] : List Str).length → bindArgs (PySem.W.fnOf m qual (defArgs st) (defBody st) (defScope st) .none kV doc pm an cdv ct) ⟨us, []⟩ = pure ((["self", "bound"] : List Str).zip us))
    (hb : ∀ (cdv : Value) (A : Around) (outer : List Env) (s : Shared) (H : Hp) (E : XK), Room k (A.deeper (envOfC qual (defScope st) s.heap.objs.size f cdv)) →
      TX (cxOf (L2.CX P w) P w K mg base N qual (defScope st) f cdv A outer s H E) (fun c d H => E (clsOf K c) d H) → PSs (cxOf (L2.CX P w) P w K mg base N qual (defScope st) f cdv A outer s H E) (defBody st)
      (tSeq (tAsg (tCall (spX K T fB) [] (exW K E) (tMS K T (tCons (tVar 1) tNil))) (lfG K T is dgNum)) (tSeq (tDrop (tMeth (DC K) "go" (spE K T fGo) [] noX (tVar 0) (tCons (tVar 3) (tCons (tVar 4) (tCons (lf K T (E0 E) (dTup (dCons (dVar 2) dNil))) tNil))))) (tRet (tVar 2))))) :
    OkMe P w K mg base (k + 1) m ["self", "bound"] (spE K T (fNum fB)) := by
  obtain ⟨fd, F⟩ := F
  refine ⟨f, fd, ?_, hM, F.bindsN hbind⟩
  obtain ⟨oc, od, dV, kV, doc, pm, an, cdv, ct, osl, rfl, lk, hcd, _, _⟩ := F.ex
  refine fn_of lk hcd S (fun vs H Q E ⟨p, q, w, ms, mk, past, args, ds, G, Qd, Ed, e, D, ha, ⟨_, _, _, _, ed, _⟩, _⟩ => by rw [e, List.length_cons, ha.len, ed]; rfl) fun A outer s H vs Q E hr ⟨p, q, w, ms, mk, past, args, ds, G, Qd, Ed, e, D, ha, ⟨b, a, n, l, ed, e1, hf⟩, kk, xx⟩ => ⟨_, hb cdv A outer s H E hr ⟨_, takes_of rfl rfl rfl rfl, fun c sg H q => q⟩, ?_⟩
  subst e ed
  obtain ⟨u, rfl, hu⟩ : ∃ u, args = [u] ∧ Dp K G u b := by
    cases ha with
    | cons hu ht => cases ht; exact ⟨_, rfl, hu⟩
  refine ms3x_te (i := 1) c D rfl e1 rfl rfl hu hf (fun x v H1 G1 z1 p1 ⟨d, st', m', ex, l3, l4, l5, hq⟩ => ?_) (fun cc H1 G1 z1 hE => ⟨rfl, cc, rfl, xx cc H1 G1 z1 hE⟩)
  subst ex
  have D1 := D.grow z1
  have er1 : ER K H1 (startM N.length [b]) (L2.start N [.ref p, u]) H1 G1 := er_startM (T := T) (.cons (hu.up z1.g0) .nil)
  refine ⟨H1, G1, _, G1, _, fun r' => r' = [.no, .dat b, .dat d, .dat st', .dat (.int m')], D1.hr, er1, p1, ?_, fun r2 sg2 H2 G2 z2 er2 len2 keep2 w2 => ?_⟩
  · rw [hN]
    simp [startM, List.replicate]
    exact ⟨_, _, ⟨rfl, rfl⟩, _, _, rfl, _, _, rfl, rfl, rfl, rfl, rfl⟩
  · subst w2
    have D2 := D1.grow z2
    have h0 : sg2[0]? = some (some (.ref p)) := by rw [keep2 0 his]; rfl
    obtain ⟨vd, s2, p2⟩ := er2.dat 2 d rfl
    obtain ⟨vs, s3, p3⟩ := er2.dat 3 st' rfl
    obtain ⟨vm, s4, p4⟩ := er2.dat 4 (.int m') rfl
    refine go_te D2 h0 ⟨vs, s3, vm, s4, H1, G1, _, G2, fun x => x = .tuple [d], fun _ => False, z2, er2, by simp; omega, fun x v3 H3 G3 z3 p5 hx => ?_, fun _ _ _ _ z => z.elim⟩
    subst hx
    have D3 := D2.grow z3
    refine go_sp (ds := [st', .int m', .tuple [d]]) (Qd := fun x past' => x = .none ∧ past' = past ++ [.tuple [st', .int (n + m'), .tuple (l ++ [d])]]) D3 (.cons (p3.up z3.g0) (.cons (p4.up z3.g0) (.cons p5 .nil))) ⟨st', m', [d], a, n, l, rfl, e1, l3, by simpa using l4, l5, rfl, rfl⟩ fun x v4 ms' past' H4 G4 z4 p6 pm4 ⟨_, hp⟩ => ?_
    subst hp
    exact ⟨vd, s2, kk d vd ms' _ H4 G4 (((z1.trans z2).trans z3).trans z4) (p2.up (z3.g0.trans z4.g0)) pm4 hq⟩
end
end Fd
end
section
set_option Elab.async false
set_option linter.all false
set_option maxRecDepth 100000
set_option autoImplicit false
set_option maxHeartbeats 4000000
/-! Fg3: back, __init__ of Drawer. -/
namespace Fd
open PySem PySem.Spec PyProof.Rows L2 LamX
section
variable {P : Program} {w : World} {K : PySem.W.Frag} {mg : Str → Option Value} {base : Heap} {T : Tb}
/-- back -/
def fBack : PyData → List PyData → List PyData → (PyData → List PyData → Prop) → (Value → Prop) → Prop := fun mk past ds Q E => ds = [] ∧ past ≠ [] ∧ if past.length = 1 then E (xT "NoDeed") else Q .none past.dropLast
abbrev rLen (K : PySem.W.Frag) : List V → Hp → VK → Prop := fun xs H Q => ∃ p ys, xs = [.ref p] ∧ (SqL K H p ys ∨ SqT K H p ys) ∧ Q (.int ys.length) H
theorem mkBack {m qual : Str} {st : Stmt} {f : Addr} {N : List Str} {k : Nat} (c : DrC K) (F : ∃ fd, FunD K m qual (defArgs st) (defBody st) (defScope st) [] [] f fd) (hM : Meth K (DC K) m f) (S : FnScope N ["self"] (defScope st))
    (hbind : ∀ (kV doc pm : Value) (an : Option Addr) (cdv ct : Value) (us : List Value), us.length = (["self"] : List Str).length → bindArgs (PySem.W.fnOf m qual (defArgs st) (defBody st) (defScope st) .none kV doc pm an cdv ct) ⟨us, []⟩ = pure ((["self"] : List Str).zip us))
    (hb : ∀ (cdv : Value) (A : Around) (outer : List Env) (s : Shared) (H : Hp) (E : XK), Room k (A.deeper (envOfC qual (defScope st) s.heap.objs.size f cdv)) →
      TX (cxOf (L2.CX P w) P w K mg base N qual (defScope st) f cdv A outer s H E) (fun c d H => E (clsOf K c) d H) → PSs (cxOf (L2.CX P w) P w K mg base N qual (defScope st) f cdv A outer s H E) (defBody st)
      (tSeq (tIfS (tTest (tOp rEq (tCB (rLen K) (tCons (tFld K (tVar 0) "past") tNil)) (tC (.int 1)))) (lfS K T (fun c d H => E (clsOf K c) d H) (dRaise (xT "NoDeed"))) tNext) (tDrop (tBM0 K "list" rPop (tFld K (tVar 0) "past"))))) :
    OkMe P w K mg base (k + 1) m ["self"] (spE K T fBack) := by
  obtain ⟨fd, F⟩ := F
  refine ⟨f, fd, ?_, hM, F.bindsN hbind⟩
  obtain ⟨oc, od, dV, kV, doc, pm, an, cdv, ct, osl, rfl, lk, hcd, _, _⟩ := F.ex
  refine fn_of lk hcd S (fun vs H Q E ⟨p, q, w, ms, mk, past, args, ds, G, Qd, Ed, e, D, ha, ⟨ed, _⟩, _⟩ => by rw [e, List.length_cons, ha.len, ed]; rfl) fun A outer s H vs Q E hr ⟨p, q, w, ms, mk, past, args, ds, G, Qd, Ed, e, D, ha, ⟨ed, hne, hf⟩, kk, xx⟩ => ⟨_, hb cdv A outer s H E hr ⟨_, takes_of rfl rfl rfl rfl, fun c sg H q => q⟩, ?_⟩
  subst e ed
  cases ha
  obtain ⟨⟨dx, a⟩, b⟩ := D.drw
  have hl := D.past.len
  refine ⟨.ref p, rfl, p, DC K, dx, _, .ref q, rfl, a, c.cls, c.np, rfl, q, ms, rfl, .inl (SqL.of b), ?_⟩
  refine ⟨rfl, _, rfl, ?_⟩
  by_cases h1 : past.length = 1
  · have e1 : decide (V.int (ms.length : Int) = V.int 1) = true := by rw [hl, h1]; rfl
    rw [if_pos h1] at hf
    refine (if_pos e1).mpr ?_
    refine ⟨H, G, _, G, { nx := fun _ => False, rt := fun _ => False, ex := Ed }, D.hr, er_startM (T := T) (v := .ref p) (vs := []) (ds := []) .nil, hf, ?_⟩
    exact ⟨fun _ _ _ _ _ _ _ z => z.elim, fun _ _ _ _ _ _ _ z => z.elim, fun _ _ _ _ _ _ _ z => z.elim, fun _ _ _ _ _ _ z => z.elim, fun cc H' G' z hE => xx cc H' G' z hE⟩
  · have e1 : ¬ (decide (V.int (ms.length : Int) = V.int 1) = true) := by
      simp only [decide_eq_true_eq]
      intro z
      injection z with z
      exact h1 (by omega)
    rw [if_neg h1] at hf
    refine (if_neg e1).mpr ?_
    have hms : ms ≠ [] := fun z => hne (by
      have := D.past
      rw [z] at this
      cases this
      rfl)
    have hlast : ms[ms.length - 1]? = some (ms.getLast hms) := by rw [← List.getLast?_eq_getElem?, List.getLast?_eq_some_getLast hms]
    refine ⟨.ref p, rfl, p, DC K, dx, _, .ref q, rfl, a, c.cls, c.np, rfl, .inl ⟨rfl, ms, SqL.of b⟩, q, ms, _, rfl, rfl, b, hlast, ?_⟩
    have hd : DpAll K G ms.dropLast past.dropLast := by
      rw [List.dropLast_eq_take, List.dropLast_eq_take, hl]
      exact D.past.take _
    exact kk .none .non _ _ H G D.hr .non hd hf
/-- __init__: the instance at p gets its maker and a new list -/
def spI (K : PySem.W.Frag) (T : Tb) : Sp := fun vs H Q E => ∃ p dx w s mk st H0 G0 G, vs = [.ref p, w, s] ∧ HR T H0 G0 H G ∧ NT H0 p ∧ G p = none ∧ H p = some (.ins (DC K) dx []) ∧ Dp K G w mk ∧ Dp K G s st ∧
  ∀ q H' G' ms, HR T H0 G0 H' G' → Same G G' → NT H0 q → q ≠ p → H' p = some (.ins (DC K) dx [("maker", w), ("past", .ref q)]) → G' p = none → H' q = some (.lst ms) → G' q = none → DpAll K G' ms [.tuple [st, .int 0, .tuple []]] → Q .non H'
abbrev dNewP : DA := dLst (dCons (dTup (dCons (dVar 2) (dCons (dC (.int 0)) (dCons (dTup dNil) dNil)))) dNil)
theorem mkInit {m qual : Str} {st : Stmt} {f : Addr} {N : List Str} {k : Nat} {E0 : XK → XK} (c : DrC K) (hN : N.length = 3) (F : ∃ fd, FunD K m qual (defArgs st) (defBody st) (defScope st) [] [] f fd) (S : FnScope N ["self", "maker", "stand"] (defScope st))
    (hb : ∀ (cdv : Value) (A : Around) (outer : List Env) (s : Shared) (H : Hp) (E : XK), PSs (cxOf (L2.CX P w) P w K mg base N qual (defScope st) f cdv A outer s H E) (defBody st)
      (tSeq (sFld K (tVar 0) (tVar 1) "maker") (sFld K (tVar 0) (lfN K T (E0 E) dNewP) "past"))) :
    ∃ fd, FunD K m qual (defArgs st) (defBody st) (defScope st) [] [] f fd ∧ FnOk P w K mg base (L2.CX P w) (k + 1) f fd ["self", "maker", "stand"] (spI K T) := by
  obtain ⟨fd, F⟩ := F
  refine ⟨fd, F, ?_⟩
  obtain ⟨oc, od, dV, kV, doc, pm, an, cdv, ct, osl, rfl, lk, hcd, _, _⟩ := F.ex
  refine fn_of lk hcd S (fun vs H Q E ⟨p, dx, w, s, mk, st, H0, G0, G, e, _⟩ => by rw [e]; rfl) fun A outer s' H vs Q E hr ⟨p, dx, w, s, mk, st', H0, G0, G, e, h, n, gp, hp, dw, ds, kk⟩ => ⟨_, hb cdv A outer s' H E, ?_⟩
  subst e
  refine ⟨w, rfl, .ref p, rfl, p, DC K, dx, _, rfl, hp, c.cls, c.nm, by decide, ?_⟩
  have z1 : HR T H0 G0 (upd H p (.ins (DC K) dx [("maker", w)])) G := h.pokeX n hp (fun ps q => by cases q) (fun c q _ z => by cases z) gp
  have l3 : 3 ≤ sizeLine := by show 3 ≤ 16777216; decide
  have l1 : 1 ≤ sizeLine := by show 1 ≤ 16777216; decide
  generalize hH1 : upd H p (.ins (DC K) dx [("maker", w)]) = H1 at z1
  have hp1 : H1 p = some (.ins (DC K) dx [("maker", w)]) := by rw [← hH1]; exact upd_same
  show sFld K (tVar 0) (lfN K T (E0 E) dNewP) "past" _ _ (upd H p (.ins (DC K) dx [("maker", w)]))
  rw [hH1]
  have er1 : ER K H1 (startM N.length [mk, st']) (L2.start N [.ref p, w, s]) H1 G := er_startM (T := T) (.cons dw (.cons ds .nil))
  refine ⟨H1, G, _, G, fun x => x = [.tuple [st', .int 0, .tuple []]], fun _ => False, z1.refl, er1, ?_, fun x q ms H2 G2 z2 nq hq gq pm hx => ?_, fun _ _ _ _ z => z.elim⟩
  · rw [hN]
    simp [startM, l3, l1]
  · subst hx
    have hp2 : H2 p = some (.ins (DC K) dx [("maker", w)]) := z2.ext p _ hp1 fun ps q => by cases q
    have gp2 : G2 p = none := z2.noNewO hp1 (fun ps q => by cases q) gp
    have hqp : q ≠ p := fun z => by
      subst z
      obtain ⟨ps, e⟩ := nq _ hp1
      cases e
    refine ⟨.ref p, rfl, p, DC K, dx, _, rfl, hp2, c.cls, c.np, by simp, ?_⟩
    exact kk q _ G2 ms ((z1.trans z2).pokeX n hp2 (fun ps q => by cases q) (fun c q _ z => by cases z) gp2) z2.g0 (nq.back z1.ext) hqp upd_same gp2 (by rw [upd_ne hqp]; exact hq) gq pm
end
end Fd
end
section
set_option Elab.async false
set_option linter.all false
set_option maxRecDepth 100000
set_option autoImplicit false
set_option maxHeartbeats 4000000
/-! Fg4: drawers in the slots of a caller: a slot whose name no scope has may hold anything. -/
namespace Fd
open PySem PySem.Spec PyProof.Rows L2 LamX
theorem inv_ghost {X : Cx} {pins : List (Addr × Obj)} {sg : L2.St} {H : Hp} {s : Shared} {g : Nat} {y : Str} (I : Inv X pins sg H s) (hg : X.N[g]? = some y) (hv : ¬ Vis X.env.scope y) (x : Option V) : Inv X pins (sg.set g x) H s := by
  refine ⟨I.ok, I.os, I.bare, I.base, ?_, I.cell, I.free, I.freeC, I.pin, I.hok, by rw [List.length_set]; exact I.len⟩
  obtain ⟨m, hn, hl⟩ := I.loc
  refine ⟨m, hn, fun i z av e1 e2 e3 => ?_⟩
  rcases getSet e2 with ⟨rfl, _⟩ | ⟨_, q⟩
  · rw [hg] at e1
    cases e1
    exact absurd e3 hv
  · exact hl i z av e1 q e3
/-- behind a statement the ghost slot is set -/
theorem ps_ghost {X : Cx} {st : Stmt} {te : TS} {g : Nat} {y : Str} (h : PS X st te) (hg : X.N[g]? = some y) (hv : ¬ Vis X.env.scope y) : PS X st (fun D sg H => te { D with nx := fun sg' H' => ∃ x, D.nx (sg'.set g x) H' } sg H) := by
  refine ⟨fun pins s sg H D I w => ?_⟩
  refine wpAny_mono (h.run pins s sg H _ I w) (fun fl s' q => ?_) fun _ _ z => z
  cases fl with
  | next =>
    obtain ⟨sg', H', I', x, q⟩ := q
    exact ⟨sg'.set g x, H', inv_ghost I' hg hv x, q⟩
  | ret v => exact q
  | brk => exact q
  | cont => exact q

/-- ahead of a block the ghost slot is set -/
theorem pss_ghost0 {X : Cx} {sts : List Stmt} {te : TS} {g : Nat} {y : Str} (h : PSs X sts te) (hg : X.N[g]? = some y) (hv : ¬ Vis X.env.scope y) : PSs X sts (fun D sg H => ∃ x, te D (sg.set g x) H) :=
  ⟨fun pins s sg H D I ⟨x, w⟩ => h.run pins s (sg.set g x) H D (inv_ghost I hg hv x) w⟩

/-! ### expressions that change things of one's own -/
abbrev DX := Ev → (PyData → Ev → Prop) → (Value → Prop) → Prop
def lfC (K : PySem.W.Frag) (T : Tb) (E : XK) (t : DX) : TE := fun sg H Q => ∃ H0 G0 r G Rd Ed, HR T H0 G0 H G ∧ ER K H0 r sg H G ∧ t r Rd Ed ∧
  (∀ d v r' H' G', HR T H0 G0 H' G' → Same G G' → ER K H0 r' sg H' G' → Dp K G' v d → Rd d r' → Q v H') ∧ Xc T E H G Ed
structure FC (X : Cx) (T : Tb) (E : XK) (e : Expr) (t : DX) : Prop where
  pe : PE X e (lfC X.K T E t)
section
variable {X : Cx} {T : Tb} {E : XK} {e : Expr}
theorem FC.mk' {t : DX} {te : TE} (h : PE X e te) (q : ∀ sg H Q, lfC X.K T E t sg H Q → te sg H Q) : FC X T E e t := ⟨⟨fun pins s sg H Q I w => h.run pins s sg H Q I (q sg H Q w)⟩⟩
@[simp] def dPure (t : DE) : DX := fun r R E => t r (fun d => R d r) E
theorem fc_of {t : DE} (h : FE X T E e t) : FC X T E e (dPure t) := FC.mk' h.pe fun sg H Q ⟨H0, G0, r, G, Rd, Ed, hh, er, w, k, x⟩ =>
  ⟨H0, G0, r, G, _, Ed, hh, er, w, fun d v H' G' z p q => k d v r H' G' (hh.trans z) z.g0 (er.grow z) p q, x⟩
/-- x.m(..): x in slot i, its list in slot g -/
@[simp] def dMe (i g : Nat) (f : PyData → List PyData → List PyData → (PyData → List PyData → Prop) → (Value → Prop) → Prop) (ts : DA) : DX := fun r R E => ∃ q mk past, r[i]? = some (.fct (.ins q mk)) ∧ r[g]? = some (.obj (.at q past)) ∧
  ts r (fun ds => f mk past ds (fun d past' => R d (r.set g (.obj (.at q past')))) E) E
theorem me_of {K : PySem.W.Frag} {m : Str} {i g : Nat} {f : PyData → List PyData → List PyData → (PyData → List PyData → Prop) → (Value → Prop) → Prop} {ts : DA} (hm : (m == "maker") = false ∧ (m == "past") = false) :
    ∀ sg H Q, lfC K T E (dMe i g f ts) sg H Q → tMeth (DC K) m (spE K T f) [] (fun cls d H => d = none ∧ ∃ c, cls = clsOf K c ∧ E c none H) (tVar i) (lfA K T E ts) sg H Q := by
  intro sg H Q ⟨H0, G0, r, G, Rd, Ed, h, er, ⟨q, mk, past, hi, hg, w⟩, k, x⟩
  obtain ⟨_, a1, p, dx, wv, rfl, ap, dm⟩ := er.fct i _ hi
  have a2 := h.sub p _ ap
  obtain ⟨p', u', b1, b2, b3, b4, ms, eu, eq, dp⟩ := er.obj g _ hg
  subst eu eq
  have D : DrD K T p q wv ms mk past H G := ⟨h.refl, ⟨⟨dx, a2⟩, b2⟩, dm, dp, b3⟩
  refine ⟨.ref p, a1, p, dx, _, rfl, a2, look_none hm, H0, G0, r, G, _, Ed, h, er, w, fun ds vs H1 G1 z1 pv hf => ?_, x⟩
  have D1 := D.grow z1
  refine ⟨p, q, wv, ms, mk, past, vs, ds, G1, _, Ed, by rw [List.append_nil], D1, pv, hf, fun d v ms' past' H' G' z2 pd pm hR => ?_, fun c H' G' z2 hE => ⟨rfl, c, rfl, x c H' G' (z1.trans z2) hE⟩⟩
  have D2 := D1.grow z2
  exact k d v _ _ G' (((h.trans z1).trans z2).poke b4 D2.drw.2 D2.gq) (z1.g0.trans z2.g0) ((er.grow (z1.trans z2)).pokeX (o' := .at q past') hg b1 D2.gq b4 ⟨ms', rfl, rfl, pm⟩) pd hR
end
end Fd
end
section
set_option Elab.async false
set_option linter.all false
set_option maxRecDepth 100000
set_option autoImplicit false
set_option maxHeartbeats 4000000
/-! Fg5: calls of methods of a drawer by its name, as expressions that change; statements over them. -/
namespace Fd
open PySem PySem.Spec PyProof.Rows L2 LamX
section
variable {X : Cx} {T : Tb} {E : XK} {e : Expr} {es : List Expr} {pos : Pos}
abbrev FDr := PyData → List PyData → List PyData → (PyData → List PyData → Prop) → (Value → Prop) → Prop
@[simp] def dMeN (i g : Nat) (f : FDr) (ts : DA) : DX := fun r R E => ∃ q mk past, r[i]? = some (.fct (.ins q mk)) ∧ r[g]? = some (.obj (.at q past)) ∧
  ts r (fun ds => f mk past ds (fun d past' => R d (r.set g (.obj (.at q past')))) (fun _ => False)) E
theorem meN_of {K : PySem.W.Frag} {m : Str} {i g : Nat} {f : FDr} {ts : DA} (hm : (m == "maker") = false ∧ (m == "past") = false) :
    ∀ sg H Q, lfC K T E (dMeN i g f ts) sg H Q → tMeth (DC K) m (spE K T f) [] noX (tVar i) (lfA K T E ts) sg H Q := by
  intro sg H Q ⟨H0, G0, r, G, Rd, Ed, h, er, ⟨q, mk, past, hi, hg, w⟩, k, x⟩
  obtain ⟨_, a1, p, dx, wv, rfl, ap, dm⟩ := er.fct i _ hi
  have a2 := h.sub p _ ap
  obtain ⟨p', u', b1, b2, b3, b4, ms, eu, eq, dp⟩ := er.obj g _ hg
  subst eu eq
  have D : DrD K T p q wv ms mk past H G := ⟨h.refl, ⟨⟨dx, a2⟩, b2⟩, dm, dp, b3⟩
  refine ⟨.ref p, a1, p, dx, _, rfl, a2, look_none hm, H0, G0, r, G, _, Ed, h, er, w, fun ds vs H1 G1 z1 pv hf => ?_, x⟩
  have D1 := D.grow z1
  refine ⟨p, q, wv, ms, mk, past, vs, ds, G1, _, fun _ => False, by rw [List.append_nil], D1, pv, hf, fun d v ms' past' H' G' z2 pd pm hR => ?_, fun c H' G' z2 hE => hE.elim⟩
  have D2 := D1.grow z2
  exact k d v _ _ G' (((h.trans z1).trans z2).poke b4 D2.drw.2 D2.gq) (z1.g0.trans z2.g0) ((er.grow (z1.trans z2)).pokeX (o' := .at q past') hg b1 D2.gq b4 ⟨ms', rfl, rfl, pm⟩) pd hR
/-- y = M -/
@[simp] def dSetC (i : Nat) (t : DX) : DS := fun D r => t r (fun d r' => D.nx (r'.set i (.dat d))) D.ex
theorem fs_setC {i : Nat} {x : Str} {pos' : Pos} {t : DX} (hN : X.N.Nodup) (hi : X.N[i]? = some x) (hx : Loc X.env.scope x) (he : FC X T E e t) (hs : swapsWith e (some (.Name x pos')) pos.line X.env = pure false := by rfl) (hf : X.fn x = true ∨ X.env.scope.names.lookup x = some .local := by first | exact .inl rfl | exact .inr rfl | assumption) :
    FS X T E (.Assign [.Name x pos'] e pos) (dSetC i t) :=
  FS.mk' (ps_set hN hi hx he.pe hs hf) fun D sg H ⟨H0, G0, r, G, Dd, h, er, w, k⟩ => ⟨H0, G0, r, G, _, _, h, er, w, fun d v r' H' G' z sm er' p q => k.nx _ _ H' G' z sm (er'.set i p) q, k.xc h⟩
/-- M, as a statement -/
@[simp] def dDropC (t : DX) : DS := fun D r => t r (fun _ r' => D.nx r') D.ex
theorem fs_exprC {t : DX} (he : FC X T E e t) (hs : swapsWith e none pos.line X.env = pure false := by rfl) : FS X T E (.Expr e pos) (dDropC t) :=
  FS.mk' (ps_expr he.pe hs) fun D sg H ⟨H0, G0, r, G, Dd, h, er, w, k⟩ => ⟨H0, G0, r, G, _, _, h, er, w, fun d v r' H' G' z sm er' p q => k.nx _ _ H' G' z sm er' q, k.xc h⟩
/-- x.m(e, ..) -/
theorem fc_meth {i g j k : Nat} {x m : Str} {ps : List Str} {f : FDr} {ts : DA} {p1 apos : Pos} {pl : Sem Bool} (c : DrC X.K) (F : OkMe X.prog X.w X.K X.mg X.base k m ps (spE X.K T f)) (px : PX X E) (hr : Room j X.A) (ha : FA X T E (e :: es) ts) (hm : (m == "maker") = false ∧ (m == "past") = false := by decide) (hk : Nat.ble k j = true := by rfl)
    (hN : X.N[i]? = some x := by rfl) (hv : Vis X.env.scope x := by first | exact Or.inl rfl | exact Or.inr (Or.inl rfl) | exact Or.inr (Or.inr rfl)) (hd : (x == ("__debug__" : Str)) = false := by decide) (hcd : (x == ("__classdict__" : Str)) = false := by decide)
    (hst : starEach (e :: es) X.env = (false, eval e X.env) :: starEach es X.env := by rfl) (hpl : (backTo pos (starEach es X.env)).any (·.1) = false := by rfl)
    (ht : eval (.Call (.Attribute (.Name x p1) m apos) (e :: es) [] pos) X.env = (do
      let ov ← eval (.Name x p1) X.env
      standAt apos.atName
      let (f, first) ← holding [ov] (getMethod ov m pl)
      callWith pos f first (backTo pos (starEach (e :: es) X.env)) (backToKw pos (keywordEach [] X.env))) := by rfl) : FC X T E (.Call (.Attribute (.Name x p1) m apos) (e :: es) [] pos) (dMe i g f ts) := by
  obtain ⟨fa, fd, F, hM, hb⟩ := F
  exact FC.mk' (pe_meth (pe_var hN hv hd hcd) c.cls hM F (hr.mono (Nat.le_of_ble_eq_true hk)) hb .nil px ha.pa hst hpl ht) (me_of hm)
theorem fc_methN {i g j k : Nat} {x m : Str} {ps : List Str} {f : FDr} {ts : DA} {p1 apos : Pos} {pl : Sem Bool} (c : DrC X.K) (F : OkMe X.prog X.w X.K X.mg X.base k m ps (spE X.K T f)) (hr : Room j X.A) (ha : FA X T E (e :: es) ts) (hm : (m == "maker") = false ∧ (m == "past") = false := by decide) (hk : Nat.ble k j = true := by rfl)
    (hN : X.N[i]? = some x := by rfl) (hv : Vis X.env.scope x := by first | exact Or.inl rfl | exact Or.inr (Or.inl rfl) | exact Or.inr (Or.inr rfl)) (hd : (x == ("__debug__" : Str)) = false := by decide) (hcd : (x == ("__classdict__" : Str)) = false := by decide)
    (hst : starEach (e :: es) X.env = (false, eval e X.env) :: starEach es X.env := by rfl) (hpl : (backTo pos (starEach es X.env)).any (·.1) = false := by rfl)
    (ht : eval (.Call (.Attribute (.Name x p1) m apos) (e :: es) [] pos) X.env = (do
      let ov ← eval (.Name x p1) X.env
      standAt apos.atName
      let (f, first) ← holding [ov] (getMethod ov m pl)
      callWith pos f first (backTo pos (starEach (e :: es) X.env)) (backToKw pos (keywordEach [] X.env))) := by rfl) : FC X T E (.Call (.Attribute (.Name x p1) m apos) (e :: es) [] pos) (dMeN i g f ts) := by
  obtain ⟨fa, fd, F, hM, hb⟩ := F
  exact FC.mk' (pe_meth (pe_var hN hv hd hcd) c.cls hM F (hr.mono (Nat.le_of_ble_eq_true hk)) hb .nil pass_never ha.pa hst hpl ht) (meN_of hm)
theorem fa_nil0 : FA X T E [] dNil := fa_nil
/-- x.m() -/
theorem nil_of {K : PySem.W.Frag} {sg : L2.St} {H : Hp} {Q : List V → Hp → Prop} (h : lfA K T E dNil sg H Q) : tNil sg H Q := by
  obtain ⟨H0, G0, r, G, Qd, Ed, hh, er, w, k, x⟩ := h
  exact k [] [] H G hh.refl .nil w
theorem meth_nil {K : PySem.W.Frag} {C : Addr} {m : Str} {sp : Sp} {E1 : XK} {ta : TE} {sg : L2.St} {H : Hp} {Q : VK} (mono : ∀ (s : L2.St) (H : Hp) (Q Q' : VK), ta s H Q → (∀ v H', Q v H' → Q' v H') → ta s H Q') (h : tMeth C m sp [] E1 ta (lfA K T E dNil) sg H Q) : tMeth C m sp [] E1 ta tNil sg H Q :=
  mono sg H _ _ h fun v H' ⟨a, dx, fs, e1, e2, e3, q⟩ => ⟨a, dx, fs, e1, e2, e3, nil_of q⟩
theorem var_mono {i : Nat} : ∀ (s : L2.St) (H : Hp) (Q Q' : VK), tVar i s H Q → (∀ v H', Q v H' → Q' v H') → tVar i s H Q' := fun s H Q Q' ⟨v, h, q⟩ k => ⟨v, h, k v H q⟩
theorem fc_meth0 {i g j k : Nat} {x m : Str} {ps : List Str} {f : FDr} {p1 apos : Pos} {pl : Sem Bool} (c : DrC X.K) (F : OkMe X.prog X.w X.K X.mg X.base k m ps (spE X.K T f)) (px : PX X E) (hr : Room j X.A) (hm : (m == "maker") = false ∧ (m == "past") = false := by decide) (hk : Nat.ble k j = true := by rfl)
    (hN : X.N[i]? = some x := by rfl) (hv : Vis X.env.scope x := by first | exact Or.inl rfl | exact Or.inr (Or.inl rfl) | exact Or.inr (Or.inr rfl)) (hd : (x == ("__debug__" : Str)) = false := by decide) (hcd : (x == ("__classdict__" : Str)) = false := by decide)
    (ht : eval (.Call (.Attribute (.Name x p1) m apos) [] [] pos) X.env = (do
      let ov ← eval (.Name x p1) X.env
      standAt apos.atName
      let (f, first) ← holding [ov] (getMethod ov m pl)
      callWith pos f first (backTo pos (starEach [] X.env)) (backToKw pos (keywordEach [] X.env))) := by rfl) : FC X T E (.Call (.Attribute (.Name x p1) m apos) [] [] pos) (dMe i g f dNil) := by
  obtain ⟨fa, fd, F, hM, hb⟩ := F
  exact FC.mk' (pe_meth0 (pe_var hN hv hd hcd) c.cls hM F (hr.mono (Nat.le_of_ble_eq_true hk)) hb .nil px ht) fun sg H Q w => meth_nil var_mono (me_of hm sg H Q w)
theorem fc_meth0N {i g j k : Nat} {x m : Str} {ps : List Str} {f : FDr} {p1 apos : Pos} {pl : Sem Bool} (c : DrC X.K) (F : OkMe X.prog X.w X.K X.mg X.base k m ps (spE X.K T f)) (hr : Room j X.A) (hm : (m == "maker") = false ∧ (m == "past") = false := by decide) (hk : Nat.ble k j = true := by rfl)
    (hN : X.N[i]? = some x := by rfl) (hv : Vis X.env.scope x := by first | exact Or.inl rfl | exact Or.inr (Or.inl rfl) | exact Or.inr (Or.inr rfl)) (hd : (x == ("__debug__" : Str)) = false := by decide) (hcd : (x == ("__classdict__" : Str)) = false := by decide)
    (ht : eval (.Call (.Attribute (.Name x p1) m apos) [] [] pos) X.env = (do
      let ov ← eval (.Name x p1) X.env
      standAt apos.atName
      let (f, first) ← holding [ov] (getMethod ov m pl)
      callWith pos f first (backTo pos (starEach [] X.env)) (backToKw pos (keywordEach [] X.env))) := by rfl) : FC X T E (.Call (.Attribute (.Name x p1) m apos) [] [] pos) (dMeN i g f dNil) := by
  obtain ⟨fa, fd, F, hM, hb⟩ := F
  exact FC.mk' (pe_meth0 (pe_var hN hv hd hcd) c.cls hM F (hr.mono (Nat.le_of_ble_eq_true hk)) hb .nil pass_never ht) fun sg H Q w => meth_nil var_mono (meN_of hm sg H Q w)
/-- x.stand() and its like: only told -/
@[simp] def dTell (i g : Nat) (f : PyData → List PyData → M PyData) : DE := fun r Q E => ∃ q mk past, r[i]? = some (.fct (.ins q mk)) ∧ r[g]? = some (.obj (.at q past)) ∧ f mk past Q (fun _ => False)
theorem fe_tell {i g j k : Nat} {x m : Str} {f : PyData → List PyData → M PyData} {p1 apos : Pos} {pl : Sem Bool} (c : DrC X.K) (F : OkMe X.prog X.w X.K X.mg X.base k m ["self"] (spS X.K T f)) (hr : Room j X.A) (hm : (m == "maker") = false ∧ (m == "past") = false := by decide) (hk : Nat.ble k j = true := by rfl)
    (hN : X.N[i]? = some x := by rfl) (hv : Vis X.env.scope x := by first | exact Or.inl rfl | exact Or.inr (Or.inl rfl) | exact Or.inr (Or.inr rfl)) (hd : (x == ("__debug__" : Str)) = false := by decide) (hcd : (x == ("__classdict__" : Str)) = false := by decide)
    (ht : eval (.Call (.Attribute (.Name x p1) m apos) [] [] pos) X.env = (do
      let ov ← eval (.Name x p1) X.env
      standAt apos.atName
      let (f, first) ← holding [ov] (getMethod ov m pl)
      callWith pos f first (backTo pos (starEach [] X.env)) (backToKw pos (keywordEach [] X.env))) := by rfl) : FE X T E (.Call (.Attribute (.Name x p1) m apos) [] [] pos) (dTell i g f) := by
  obtain ⟨fa, fd, F, hM, hb⟩ := F
  refine FE.mk' (pe_meth0 (E := noX) (pe_var hN hv hd hcd) c.cls hM F (hr.mono (Nat.le_of_ble_eq_true hk)) hb .nil pass_never ht) fun sg H Q ⟨H0, G0, r, G, Qd, Ed, h, er, ⟨q, mk, past, hi, hg, hf⟩, k, x⟩ => ?_
  obtain ⟨_, a1, p, dx, wv, rfl, ap, dm⟩ := er.fct i _ hi
  have a2 := h.sub p _ ap
  obtain ⟨p', u', b1, b2, b3, b4, ms, eu, eq, dp⟩ := er.obj g _ hg
  subst eu eq
  have D : DrD X.K T p q wv ms mk past H G := ⟨h.refl, ⟨⟨dx, a2⟩, b2⟩, dm, dp, b3⟩
  exact ⟨.ref p, a1, p, dx, _, rfl, a2, look_none hm, p, q, wv, ms, mk, past, G, Qd, rfl, D, hf, fun d v H' G' z pd hq => k d v H' G' z pd hq⟩
end
end Fd
end
section
set_option Elab.async false
set_option linter.all false
set_option maxRecDepth 100000
set_option autoImplicit false
set_option maxHeartbeats 4000000
/-! Fg6: told(lambda: M), comparisons and tests with M, where M changes things of one's own. -/
namespace Fd
open PySem PySem.Spec PyProof.Rows L2 LamX
section
variable {X : Cx} {T : Tb} {E : XK} {a b e : Expr} {pos : Pos}
/-- M op e -/
@[simp] def dOpC (o : PyData → PyData → M PyData) (ta : DX) (tb : DE) : DX := fun r R E => ta r (fun d r' => tb r' (fun d2 => o d d2 (fun x => R x r') (fun _ => False)) (fun _ => False)) E
theorem opC_of {K : PySem.W.Frag} {rr : R2} {o : PyData → PyData → M PyData} {ta : DX} {tb : DE} (hd : OpD K T rr o) : ∀ sg H Q, lfC K T E (dOpC o ta tb) sg H Q → tOp rr (lfC K T E ta) (lf K T E tb) sg H Q := by
  intro sg H Q ⟨H0, G0, r, G, Rd, Ed, h, er, w, k, x⟩
  refine ⟨H0, G0, r, G, _, Ed, h, er, w, fun d v r' H1 G1 z sm er1 p w1 => ?_, x⟩
  refine ⟨H0, G0, r', G1, _, fun _ => False, z, er1, w1, fun d2 v2 H2 G2 z2 p2 w2 => ?_, fun _ _ _ _ q => q.elim⟩
  exact hd v v2 d d2 H2 G2 _ _ Q z2.refl (p.up z2.g0) p2 w2 fun x v3 H3 G3 z3 p3 q => k x v3 r' H3 G3 ((z.trans z2).trans z3) ((sm.trans z2.g0).trans z3.g0) ((er1.grow z2).grow z3) p3 q
theorem fc_cmp {op : CmpOp} {rr : R2} {o : PyData → PyData → M PyData} {ta : DX} {tb : DE} (ho : OpR X (compareOp op) rr) (hd : OpD X.K T rr o) (ha : FC X T E a ta) (hb : FE X T E b tb) (hm : behindInMarks op b = false) : FC X T E (.Compare a [op] [b] pos) (dOpC o ta tb) :=
  FC.mk' (pe_cmpR ho ha.pe hb.pe hm) (opC_of hd)
/-! ### tests -/
abbrev DXT := Ev → (Bool → Ev → Prop) → (Value → Prop) → Prop
def lfTC (K : PySem.W.Frag) (T : Tb) (E : XK) (t : DXT) : TT := fun sg H Q => ∃ H0 G0 r G Rd Ed, HR T H0 G0 H G ∧ ER K H0 r sg H G ∧ t r Rd Ed ∧
  (∀ b r' H' G', HR T H0 G0 H' G' → Same G G' → ER K H0 r' sg H' G' → Rd b r' → Q b H') ∧ Xc T E H G Ed
structure FTC (X : Cx) (T : Tb) (E : XK) (e : Expr) (t : DXT) : Prop where
  pt : PT X e (lfTC X.K T E t)
structure FWC (X : Cx) (T : Tb) (E : XK) (e : Expr) (t : DXT) : Prop where
  pw : PW X e (lfTC X.K T E t)
theorem FTC.mk' {t : DXT} {te : TT} (h : PT X e te) (q : ∀ sg H Q, lfTC X.K T E t sg H Q → te sg H Q) : FTC X T E e t := ⟨⟨fun pins s sg H Q I w => h.run pins s sg H Q I (q sg H Q w)⟩⟩
theorem FWC.mk' {t : DXT} {te : TT} (h : PW X e te) (q : ∀ sg H Q, lfTC X.K T E t sg H Q → te sg H Q) : FWC X T E e t := ⟨⟨fun wh pins s sg H Q I w => h.run wh pins s sg H Q I (q sg H Q w)⟩⟩
@[simp] def dPureT (t : DT) : DXT := fun r R E => t r (fun d => R d r) E
theorem pure_ofT {K : PySem.W.Frag} {t : DT} : ∀ sg H Q, lfTC K T E (dPureT t) sg H Q → lfT K T E t sg H Q := fun sg H Q ⟨H0, G0, r, G, Rd, Ed, hh, er, w, k, x⟩ =>
  ⟨H0, G0, r, G, _, Ed, hh, er, w, fun d H' G' z q => k d r H' G' (hh.trans z) z.g0 (er.grow z) q, x⟩
theorem ftc_of {t : DT} (h : FT X T E e t) : FTC X T E e (dPureT t) := FTC.mk' h.pt pure_ofT
@[simp] def dTestC (t : DX) : DXT := fun r R E => t r (fun d r' => ∃ k, d = .bool k ∧ R k r') E
theorem ftc_cmp {op : CmpOp} {rr : R2} {o : PyData → PyData → M PyData} {ta : DX} {tb : DE} (ho : OpR X (compareOp op) rr) (hd : OpD X.K T rr o) (ha : FC X T E a ta) (hb : FE X T E b tb) (hm : behindInMarks op b = false) : FTC X T E (.Compare a [op] [b] pos) (dTestC (dOpC o ta tb)) :=
  FTC.mk' (pt_cmpR ho ha.pe hb.pe hm) fun sg H Q ⟨H0, G0, r, G, Rd, Ed, h, er, w, k, x⟩ => opC_of hd _ _ _ ⟨H0, G0, r, G, _, Ed, h, er, w, fun d v r' H' G' z sm er' p ⟨c, e, q⟩ => by
    subst e
    cases p
    exact ⟨c, rfl, k c r' H' G' z sm er' q⟩, x⟩
@[simp] def dOrC (ta tb : DXT) : DXT := fun r R E => ta r (fun c r' => if c = true then R true r' else tb r' R (fun _ => False)) E
theorem fwc_or1 {t : DXT} (h : FTC X T E a t) : FWC X T E (.BoolOp .Or [a] pos) t := ⟨pw_or1 h.pt⟩
theorem fwc_or {rest : List Expr} {ta tb : DXT} (ha : FTC X T E a ta) (hb : FWC X T E (.BoolOp .Or (b :: rest) pos) tb) : FWC X T E (.BoolOp .Or (a :: b :: rest) pos) (dOrC ta tb) := by
  refine FWC.mk' (pw_or ha.pt hb.pw) fun sg H Q ⟨H0, G0, r, G, Rd, Ed, h, er, w, k, x⟩ => ?_
  refine ⟨H0, G0, r, G, _, Ed, h, er, w, fun c r' H' G' z sm er' q => ?_, x⟩
  cases c with
  | true => exact iteT (k true r' H' G' z sm er' (by rw [if_pos rfl] at q; exact q))
  | false => exact iteF ⟨H0, G0, r', G', Rd, fun _ => False, z, er', by rw [if_neg Bool.false_ne_true] at q; exact q, fun c r2 H2 G2 z2 sm2 er2 q2 => k c r2 H2 G2 z2 (sm.trans sm2) er2 q2, fun _ _ _ _ q => q.elim⟩
theorem FWC.ftc {t : DXT} {op : BoolOp} {es : List Expr} (h : FWC X T E (.BoolOp op es pos) t) : FTC X T E (.BoolOp op es pos) t := ⟨PW.pt h.pw⟩
/-- if M: .. -/
@[simp] def dIfC (c : DXT) (t u : DS) : DS := fun D r => c r (fun b r' => if b = true then t D r' else u D r') D.ex
theorem fs_ifC {c : Expr} {sa sb : List Stmt} {tc : DXT} {t u : DS} (hc : FTC X T E c tc) (ha : FSs X T E sa t) (hb : FSs X T E sb u) : FS X T E (.If c sa sb pos) (dIfC tc t u) := by
  refine FS.mk' (ps_if hc.pt ha.pss hb.pss) fun D sg H ⟨H0, G0, r, G, Dd, h, er, w, k⟩ => ?_
  refine ⟨H0, G0, r, G, _, _, h, er, w, fun b r' H' G' z sm er' q => ?_, k.xc h⟩
  cases b with
  | true => exact iteT ⟨H0, G0, r', G', Dd, z, er', by rw [if_pos rfl] at q; exact q, k.up sm⟩
  | false => exact iteF ⟨H0, G0, r', G', Dd, z, er', by rw [if_neg Bool.false_ne_true] at q; exact q, k.up sm⟩
end
/-! ### told -/
@[simp] def dToldC (cs : List (Str × PyData)) (t : DX) : DX := fun r R E => t r (fun d r' => R (.tuple [.str "told", d]) r') (fun c => ∃ n d, (n, d) ∈ cs ∧ c = xT n ∧ R (.tuple [.str "refused", d]) r)
section
variable {X : Cx} {T : Tb} {E : XK}
theorem fc_told {x : Str} {cv : List (Str × V)} {cd : List (Str × PyData)} {c P : Addr} {j k : Nat} {params : Arguments} {body : Expr} {scope : Scope} {t : DX} {p lpos pos : Pos} (C : Told X.K X.mg x (TTold X.K cv)) (hcs : ∀ n d, (n, d) ∈ cd → ∃ v, (n, v) ∈ cv ∧ ∀ G, Dp X.K G v d) (hg : Gl X x)
    (TB : TabB X.base X.mg c P) (hcode : X.env.code = .ref c) (hmT : (P, X.env.qual ++ "<lambda>") ∈ T) (hu : ∀ p ∈ T, p.1 = P → p.2 = X.env.qual ++ "<lambda>") (hr : Room j X.A) (L : LamS X.env.scope scope) (hdef : defaultsOf params X.env = ([], []))
    (hbind : ∀ (q : Str) (cl : List (Str × Addr)) (pm cv ctv : Value), bindArgs (PySem.W.kla_fn "<lambda>" q params body scope cl pm cv ctv) ⟨[], []⟩ = pure [])
    (hbody : ∀ (A : Around) (outer : List Env) (s : Shared) (H : Hp) (E : XK) (f c' : Addr), Room k (A.deeper (lamEnv X scope s.heap.objs.size f c')) → FC (lamCx X A outer s H E scope f c') T (fun c d H => E (clsOf X.K c) d H) body t)
    (hk : Nat.ble (k + 2) j = true := by rfl) (hdb : (x == ("__debug__" : Str)) = false := by decide) : FC X T E (.Call (.Name x p) [.Lambda params body scope lpos] [] pos) (dToldC cd t) := by
  obtain ⟨a, g, Ng, pg, bg, sg, dV, kV, doc, pm, cdv, ct, oc, an, od, osl, hm, hkp, lk, hc, hb, S, h0, hv, hd, hcd, hG⟩ := C
  have hr2 := hr.mono (Nat.le_of_ble_eq_true hk)
  refine FC.mk' (pe_lamcall (t := fun E => lfC X.K T (fun c d H => E (clsOf X.K c) d H) t) hg hm hkp lk hc hb S h0 hv (hG X _ (k + 1) rfl rfl hr2) TB hcode hmT hu hr2 L hdef hbind (fun A outer s H E f c' h => (hbody A outer s H E f c' h).pe) hdb hd hcd) fun sg H Q ⟨H0, G0, r, G, Rd, Ed, h, er, w, kk, x⟩ => ?_
  refine ⟨h.tabs, fun H1 ex tb => ?_⟩
  have h1 : HR T H G H1 G := ⟨ext_of_same h.sub h.nt ex, h.nt, tb, ex, Same.refl _, fun a z => .inl z⟩
  refine ⟨fun cls d H' => d = none ∧ ∃ n v, (n, v) ∈ cv ∧ cls = .ref (He.ga X.K n) ∧ ∀ H2 p, Same H' H2 → H' p = none → H2 p = some (.tup [.str "refused", v]) → Q (.ref p) H2, fun v H' => ∀ p, H' p = none → Q (.ref p) (upd H' p (.tup [.str "told", v])),
    ⟨H0, G0, r, G, _, _, h.trans h1, er.grow h1, w, fun d v r2 H2 G2 h2 sm2 er2 p2 q p hp => ?_, fun cc H2 G2 h2 ⟨n, d, hnd, ec, q⟩ => ?_⟩, fun _ _ _ z => z, fun _ _ z => z⟩
  · have z := (h2.refl).laidT (vs := [.str "told", v]) hp
    exact kk _ _ r2 _ _ (h2.trans z) (sm2.trans z.g0) (er2.grow z) (.tup (SqT.of upd_same) (.cons (.str _) (.cons (p2.up z.g0) .nil))) q
  · obtain ⟨v, hv, dv⟩ := hcs n d hnd
    refine ⟨rfl, n, v, hv, by rw [ec]; rfl, fun H3 p sm np hp => ?_⟩
    have gp : G2 p = none := by
      cases q : G2 p with
      | none => rfl
      | some u => rw [h2.sub p u q] at np; cases np
    have z : HR T H2 G2 H3 (upd G2 p (.tup [.str "refused", v])) := by
      refine ⟨fun b o e => ?_, fun b ps e => ?_, h2.tabs.ext sm, ExtN.of sm, fun b o e => by rw [upd_ne (ne_of_none e gp)]; exact e, fun b e => ?_⟩
      · by_cases hb : b = p
        · subst hb; rw [upd_same] at e; cases e; exact hp
        · rw [upd_ne hb] at e; exact sm b o (h2.sub b o e)
      · by_cases hb : b = p
        · subst hb; rw [upd_same] at e; cases e
        · rw [upd_ne hb] at e; exact h2.nt b ps e
      · by_cases hb : b = p
        · subst hb; exact .inr (NT.none np)
        · rw [upd_ne hb] at e; exact .inl e
    have zz := (h1.trans h2).trans z
    exact kk _ _ r _ _ (h.trans zz) zz.g0 (er.grow zz) (.tup (SqT.of upd_same) (.cons (.str _) (.cons (dv _) .nil))) q
end
end Fd
end
section
set_option Elab.async false
set_option linter.all false
set_option maxRecDepth 100000
set_option autoImplicit false
set_option maxHeartbeats 4000000
/-! Fg7: new drawers. -/
namespace Fd
open PySem PySem.Spec PyProof.Rows L2 LamX
/-- any new thing may be frozen -/
theorem HR.freezeX {T : Tb} {H G H' G' : Hp} {p : Addr} {u : HO} (h : HR T H G H' G') (hp : H' p = some u) (hu : ∀ ps, u ≠ .tbl ps) (n : NT H p) : HR T H G H' (upd G' p u) ∧ Same G' (upd G' p u) := by
  have sm : Same G' (upd G' p u) := fun b o e => by
    by_cases hb : b = p
    · subst hb; rw [upd_same, ← h.sub b o e, hp]
    · rw [upd_ne hb]; exact e
  refine ⟨⟨fun b o e => ?_, fun b ps e => ?_, h.tabs, h.ext, h.g0.trans sm, fun b e => ?_⟩, sm⟩
  · by_cases hb : b = p
    · subst hb; rw [upd_same] at e; rw [hp]; exact e
    · rw [upd_ne hb] at e; exact h.sub b o e
  · by_cases hb : b = p
    · subst hb; rw [upd_same] at e; cases e; exact hu ps rfl
    · rw [upd_ne hb] at e; exact h.nt b ps e
  · by_cases hb : b = p
    · subst hb; exact .inr n
    · rw [upd_ne hb] at e; exact h.new b e
abbrev newP (st : PyData) : List PyData := [.tuple [st, .int 0, .tuple []]]
/-- an expression that gives a new drawer -/
def lfW (K : PySem.W.Frag) (T : Tb) (E : XK) (t : DA) : TE := fun sg H Q => ∃ H0 G0 r G Qd Ed, HR T H0 G0 H G ∧ ER K H0 r sg H G ∧ t r Qd Ed ∧
  (∀ ds p q ms H' G', HR T H G H' G' → Qd ds → (∃ mk st, ds = [mk, st] ∧ InsR K G' (.ref p) q mk ∧ DpAll K G' ms (newP st)) → NT H q → H' q = some (.lst ms) → G' q = none → Q (.ref p) H') ∧ (∀ ds, Qd ds → ∃ mk st, ds = [mk, st]) ∧ Xc T E H G Ed
structure FWn (X : Cx) (T : Tb) (E : XK) (e : Expr) (t : DA) : Prop where
  pe : PE X e (lfW X.K T E t)
/-- Drawer, as the module has it -/
def OkI (P : Program) (w : World) (K : PySem.W.Frag) (mg : Str → Option Value) (base : Heap) (T : Tb) (k : Nat) : Prop :=
  ∃ f fd, FnOk P w K mg base (L2.CX P w) k f fd ["self", "maker", "stand"] (spI K T) ∧ L2.Mk K (DC K) f ∧ Binds K fd ["self", "maker", "stand"] [] ∧ mg "Drawer" = some (.ref (DC K))
section
variable {X : Cx} {T : Tb} {E : XK} {a b e : Expr} {es : List Expr} {pos : Pos}
theorem FWn.mk' {t : DA} {te : TE} (h : PE X e te) (q : ∀ sg H Q, lfW X.K T E t sg H Q → te sg H Q) : FWn X T E e t := ⟨⟨fun pins s sg H Q I w => h.run pins s sg H Q I (q sg H Q w)⟩⟩
theorem fd_new {j k : Nat} {ts : DA} {p : Pos} (F : OkI X.prog X.w X.K X.mg X.base T k) (hr : Room j X.A) (hg : Gl X "Drawer") (ha : FA X T E [a, b] ts) (hk : Nat.ble (k + 1) j = true := by rfl) (he : starEach [a, b] X.env = (false, eval a X.env) :: starEach [b] X.env := by rfl)
    (hpl : (backTo pos (starEach [b] X.env)).any (·.1) = false := by rfl) : FWn X T E (.Call (.Name "Drawer" p) [a, b] [] pos) ts := by
  obtain ⟨f, fd, F, M, hb, hm⟩ := F
  refine FWn.mk' (pe_make (E := noX) M F (hr.mono (Nat.le_of_ble_eq_true hk)) hg hm hb .nil pass_never ha.pa (by decide) he hpl) fun sg H Q ⟨H0, G0, r, G, Qd, Ed, h, er, w, k, k2, x⟩ => ?_
  refine ⟨H0, G0, r, G, Qd, Ed, h, er, w, fun ds vs H1 G1 h1 p1 w1 => ?_, x⟩
  intro y dx hy hdx hne
  obtain ⟨mk, st, rfl⟩ := k2 ds w1
  obtain ⟨wv, sv, rfl, dw, dsv⟩ : ∃ wv sv, vs = [wv, sv] ∧ Dp X.K G1 wv mk ∧ Dp X.K G1 sv st := by
    cases p1 with
    | cons a1 a2 => cases a2 with
      | cons a2 a3 => cases a3; exact ⟨_, _, rfl, a1, a2⟩
  have gy : G1 y = none := by
    cases q : G1 y with
    | none => rfl
    | some u => rw [h1.sub y u q] at hy; cases hy
  have z1 : HR T H1 G1 (upd H1 dx (.own y)) G1 := h1.laidO hdx
  have hy2 : (upd H1 dx (.own y)) y = none := by rw [upd_ne (Ne.symm hne)]; exact hy
  have z2 : HR T (upd H1 dx (.own y)) G1 (upd (upd H1 dx (.own y)) y (.ins (DC X.K) dx [])) G1 := z1.laidO hy2
  refine ⟨y, dx, wv, sv, mk, st, H1, G1, G1, rfl, z1.trans z2, NT.none hy, gy, upd_same, dw, dsv, fun q H' G' ms z sm nq hqy hp gp hq gq dm => ⟨rfl, ?_⟩⟩
  obtain ⟨z3, sm3⟩ := z.freezeX hp (fun ps q => by cases q) (NT.none hy)
  exact k [mk, st] y q ms H' _ (h1.trans z3) w1 ⟨mk, st, rfl, ⟨y, dx, wv, rfl, upd_same, dw.up z3.g0⟩, dm.up sm3⟩ (nq.back h1.ext) hq (by rw [upd_ne hqy]; exact gq)
/-- x = Drawer(..): x in slot i, its list in slot g -/
@[simp] def dNewD (i g : Nat) (ts : DA) : DS := fun D r => ts r (fun ds => ∃ mk st, ds = [mk, st] ∧ ∀ q, D.nx ((r.set g (.obj (.at q (newP st)))).set i (.fct (.ins q mk)))) D.ex
theorem fs_newD {i g : Nat} {x y : Str} {ts : DA} {pos' : Pos} (he : FWn X T E e ts) (hN : X.N.Nodup) (hi : X.N[i]? = some x) (hx : Loc X.env.scope x) (hg : X.N[g]? = some y) (hv : ¬ Vis X.env.scope y) (hig : i ≠ g) (hs : swapsWith e (some (.Name x pos')) pos.line X.env = pure false := by rfl) (hf : X.fn x = true ∨ X.env.scope.names.lookup x = some .local := by first | exact .inl rfl | exact .inr rfl | assumption) :
    FS X T E (.Assign [.Name x pos'] e pos) (dNewD i g ts) := by
  refine FS.mk' (ps_ghost (ps_set hN hi hx he.pe hs hf) hg hv) fun D sg H ⟨H0, G0, r, G, Dd, h, er, w, k⟩ => ?_
  refine ⟨H0, G0, r, G, _, _, h, er, w, fun ds p q ms H' G' z hQ hI nq hq gq => ?_, fun ds ⟨mk, st, e, _⟩ => ⟨mk, st, e⟩, k.xc h⟩
  obtain ⟨mk, st, rfl, hnx⟩ := hQ
  obtain ⟨mk', st', e, hI, dm⟩ := hI
  cases e
  refine ⟨some (.ref q), ?_⟩
  show D.nx ((sg.set i (some (.ref p))).set g (some (.ref q))) H'
  rw [List.set_comm _ _ hig]
  exact k.nx _ _ H' G' (h.trans z) z.g0 ((er.setNew z h g (o := .at q (newP st)) nq hq gq ⟨ms, rfl, rfl, dm⟩).setF i (f := .ins q mk) hI) (hnx q)
/-- x, y = Drawer(..), Drawer(..) -/
@[simp] def dNewD2 (i j g l : Nat) (ts us : DA) : DS := fun D r => ts r (fun ds => ∃ mk st, ds = [mk, st] ∧ us r (fun ds2 => ∃ mk2 st2, ds2 = [mk2, st2] ∧
  ∀ q q2, D.nx ((((r.set g (.obj (.at q (newP st)))).set l (.obj (.at q2 (newP st2)))).set i (.fct (.ins q mk))).set j (.fct (.ins q2 mk2)))) D.ex) D.ex
theorem fs_newD2 {i j g l : Nat} {x x2 y y2 : Str} {ts us : DA} {px px2 pt pt2 : Pos} {kt k2 : Nat} (hc : X.calm = true) (hN : X.N.Nodup) (he : FWn X T E a ts) (he2 : FWn X T E b us) (hi : X.N[i]? = some x) (hx : Loc X.env.scope x) (hj : X.N[j]? = some x2) (hx2 : Loc X.env.scope x2) (hg : X.N[g]? = some y) (hv : ¬ Vis X.env.scope y) (hl : X.N[l]? = some y2) (hv2 : ¬ Vis X.env.scope y2)
    (hne : i ≠ g ∧ i ≠ l ∧ j ≠ g ∧ j ≠ l ∧ g ≠ l) (hw : swappedStores [.Tuple [.Name x px, .Name x2 px2] kt pt] (.Tuple [a, b] k2 pt2) X.env = pure none)
    (hf : X.fn x = true ∨ X.env.scope.names.lookup x = some .local) (hf2 : X.fn x2 = true ∨ X.env.scope.names.lookup x2 = some .local)
    (hs1 : starEach [a, b] X.env = (false, eval a X.env) :: starEach [b] X.env := by rfl) (hs2 : starEach [b] X.env = (false, eval b X.env) :: starEach [] X.env := by rfl)
    (hst : (assignEach [.Name x px, .Name x2 px2] X.env).findIdx? (·.1) = none := by rfl) (hs : swapsWithSole [.Tuple [.Name x px, .Name x2 px2] kt pt] (.Tuple [a, b] k2 pt2) pos.line X.env = pure false := by rfl) :
    FS X T E (.Assign [.Tuple [.Name x px, .Name x2 px2] kt pt] (.Tuple [a, b] k2 pt2) pos) (dNewD2 i j g l ts us) := by
  refine FS.mk' (ps_ghost (ps_ghost (ps_asg (pe_tup (pa_cons he.pe (pa_cons he2.pe pa_nil hs2) hs1)) (pg_tup (n := 2) hc (pgs_cons (pg_name hN hi hx hf) (pgs_cons (pg_name hN hj hx2 hf2) pgs_nil)) rfl hst) hs hw) hg hv) hl hv2) fun D sg H ⟨H0, G0, r, G, Dd, h, er, w, k⟩ => ?_
  refine ⟨H0, G0, r, G, _, _, h, er, w, fun ds p q ms H' G' z hQ hI nq hq gq => ?_, fun ds ⟨mk, st, e, _⟩ => ⟨mk, st, e⟩, k.xc h⟩
  obtain ⟨mk, st, rfl, hnx⟩ := hQ
  obtain ⟨mk', st', e, hI, dm⟩ := hI
  cases e
  refine ⟨H0, G0, r, G', _, _, h.trans z, er.grow z, hnx, fun ds2 p2 q2 ms2 H2 G2 z2 hQ2 hI2 nq2 hq2 gq2 => ?_, fun ds ⟨mk, st, e, _⟩ => ⟨mk, st, e⟩, (k.xc h).up z⟩
  obtain ⟨mk2, st2, rfl, hnx2⟩ := hQ2
  obtain ⟨mk2', st2', e, hI2, dm2⟩ := hI2
  cases e
  refine ⟨by rw [sizeLine_eq]; simp, fun t ht => ?_⟩
  have z3 : HR T H2 G2 (upd H2 t (.tup [.ref p, .ref p2])) G2 := z2.laidO ht
  refine ⟨t, _, rfl, SqT.of upd_same, rfl, _, _, rfl, _, _, rfl, rfl, some (.ref q), some (.ref q2), ?_⟩
  show D.nx ((((sg.set i (some (.ref p))).set j (some (.ref p2))).set g (some (.ref q))).set l (some (.ref q2))) _
  obtain ⟨n1, n2, n3, n4, n5⟩ := hne
  rw [List.set_comm _ _ n3, List.set_comm _ _ n1, List.set_comm _ _ n4, List.set_comm _ _ n2]
  have e1 := er.setNew z h g (o := .at q (newP st)) nq hq gq ⟨ms, rfl, rfl, dm⟩
  have e2 := e1.setNew z2 (h.trans z) l (o := .at q2 (newP st2)) nq2 hq2 gq2 ⟨ms2, rfl, rfl, dm2⟩
  have e3 := ((e2.setF i (f := .ins q mk) (hI.up z2.g0)).setF j (f := .ins q2 mk2) hI2).grow z3
  exact k.nx _ _ _ G2 (((h.trans z).trans z2).trans z3) (z.g0.trans z2.g0) e3 (hnx2 q q2)
end
end Fd
end
section
set_option Elab.async false
set_option linter.all false
set_option maxRecDepth 100000
set_option autoImplicit false
set_option maxHeartbeats 4000000
/-! Fg8: defs that get a drawer: those that only tell, those that change it. -/
namespace Fd
open PySem PySem.Spec PyProof.Rows L2 LamX
/-- the heap without the thing at q -/
def less (H : Hp) (q : Addr) : Hp := fun a => if a = q then none else H a
theorem less_at {H : Hp} {q : Addr} : less H q q = none := if_pos rfl
theorem less_ne {H : Hp} {q a : Addr} (h : a ≠ q) : less H q a = H a := if_neg h
theorem HR.less {T : Tb} {H G : Hp} {q : Addr} (h : HR T H G H G) : HR T (less H q) G H G := by
  refine ⟨h.sub, h.nt, h.tabs, fun a o e n => ?_, Same.refl _, fun a z => .inl z⟩
  by_cases ha : a = q
  · rw [ha, less_at] at e; cases e
  · rw [less_ne ha] at e; exact e
/-- back to the whole heap, where the thing at q is put back -/
theorem HR.unless {T : Tb} {H G H' G' : Hp} {q : Addr} {ms ms' : List V} (hq : H q = some (.lst ms)) (gq : G q = none) (h : HR T (Fd.less H q) G H' G') (hq' : H' q = some (.lst ms')) (gq' : G' q = none) : HR T H G (upd H' q (.lst ms)) G' ∧ upd (upd H' q (.lst ms)) q (.lst ms') = H' := by
  have z := h.poke (ws := ms) (NT.none less_at) hq' gq'
  refine ⟨⟨z.sub, z.nt, z.tabs, fun a o e n => ?_, z.g0, fun a e => ?_⟩, ?_⟩
  · by_cases ha : a = q
    · rw [ha] at e ⊢; rw [upd_same, ← hq]; exact e
    · exact z.ext a o (by rw [less_ne ha]; exact e) n
  · by_cases ha : a = q
    · rw [ha] at e; exact absurd gq' e
    · rcases z.new a e with y | y
      · exact .inl y
      · refine .inr fun o ho => y o (by rw [less_ne ha]; exact ho)
  · rw [upd_upd]
    funext a
    by_cases ha : a = q
    · rw [ha, upd_same, hq']
    · rw [upd_ne ha]
theorem ER.base {K : PySem.W.Frag} {H0 H0' H H' G : Hp} {r : Ev} {sg : L2.St} (n : noObj r = true) (e : ER K H0 r sg H G) : ER K H0' r sg H' G :=
  ⟨e.len, e.dat, fun i o z => absurd z (noObj_at n), fun i j o o' p z => absurd z (noObj_at n), e.fct⟩
theorem noObj_rep : ∀ n : Nat, noObj (List.replicate n .no) = true
  | 0 => rfl
  | n + 1 => by rw [List.replicate_succ]; exact noObj_rep n
theorem noObj_dat : ∀ (ds : List PyData) (r : Ev), noObj r = true → noObj (ds.map .dat ++ r) = true
  | [], _, h => h
  | _ :: ds, r, h => noObj_dat ds r h
def startQ (n g : Nat) (q : Addr) (mk : PyData) (past ds : List PyData) : Ev := ((.fct (.ins q mk)) :: (ds.map .dat ++ List.replicate (n - (ds.length + 1)) .no)).set g (.obj (.at q past))
theorem er_startQ {K : PySem.W.Frag} {T : Tb} {H G : Hp} {N : List Str} {g : Nat} {p q : Addr} {w : V} {ms vs : List V} {mk : PyData} {past ds : List PyData} (D : DrD K T p q w ms mk past H G) (gp : InsR K G (.ref p) q mk) (a : DpAll K G vs ds) :
    ER K (less H q) (startQ N.length g q mk past ds) ((L2.start N (.ref p :: vs)).set g (some (.ref q))) H G := by
  have e0 := (er_startM (T := T) (H := H) (N := N) (v := .ref p) a)
  have e1 : ER K (less H q) (startM N.length ds) (L2.start N (.ref p :: vs)) H G := e0.base (noObj_dat ds _ (noObj_rep _))
  have e2 := e1.setF 0 (f := .ins q mk) gp
  have h1 : (L2.start N (.ref p :: vs)).set 0 (some (.ref p)) = L2.start N (.ref p :: vs) := rfl
  rw [h1] at e2
  refine e2.setObj g (o := .at q past) D.drw.2 D.gq (NT.none less_at) ⟨ms, rfl, rfl, D.past⟩ fun j es hj hr => ?_
  exfalso
  refine noObj_at (i := j) (o := es) ?_ hr
  exact noObj_dat ds _ (noObj_rep _)
/-- the def x gets a drawer -/
def OkD (P : Program) (w : World) (K : PySem.W.Frag) (mg : Str → Option Value) (base : Heap) (k : Nat) (x : Str) (ps : List Str) (sp : Sp) : Prop :=
  ∃ f fd, FnOk P w K mg base CX0 k f fd ps sp ∧ mg x = some (.ref f) ∧ PySem.W.keepIn K (.ref f) = true ∧ Binds K fd ps []
/-- contracts whose drawers are frozen instances -/
def spSF (K : PySem.W.Frag) (T : Tb) (f : PyData → List PyData → M PyData) : Sp := fun vs H Q E => ∃ p q w ms mk past G Qd, vs = [.ref p] ∧ DrD K T p q w ms mk past H G ∧ InsR K G (.ref p) q mk ∧ f mk past Qd (fun _ => False) ∧
  ∀ d v H' G', HR T H G H' G' → Dp K G' v d → Qd d → Q v H'
def spEF (K : PySem.W.Frag) (T : Tb) (f : FDr) : Sp := fun vs H Q E => ∃ p q w ms mk past args ds G Qd, vs = .ref p :: args ∧ DrD K T p q w ms mk past H G ∧ InsR K G (.ref p) q mk ∧ DpAll K G args ds ∧ f mk past ds Qd (fun _ => False) ∧
  (∀ d v ms' past' H' G', HR T H G H' G' → Dp K G' v d → DpAll K G' ms' past' → Qd d past' → Q v (upd H' q (.lst ms')))
section
variable {X : Cx} {T : Tb} {E : XK} {e : Expr} {es : List Expr} {pos : Pos}
/-- x(drawer), that only tells -/
theorem fe_tellF {i g j k : Nat} {x y : Str} {ps : List Str} {f : PyData → List PyData → M PyData} {p p1 : Pos} (F : OkD X.prog X.w X.K X.mg X.base k x ps (spSF X.K T f)) (hr : Room j X.A) (hg : Gl X x) (hk : Nat.ble k j = true := by rfl)
    (hN : X.N[i]? = some y := by rfl) (hv : Vis X.env.scope y := by first | exact Or.inl rfl | exact Or.inr (Or.inl rfl) | exact Or.inr (Or.inr rfl)) (hd : (y == ("__debug__" : Str)) = false := by decide) (hcd : (y == ("__classdict__" : Str)) = false := by decide) (hdb : (x == ("__debug__" : Str)) = false := by decide)
    (he : starEach [.Name y p1] X.env = (false, eval (.Name y p1) X.env) :: starEach [] X.env := by rfl) (hpl : (backTo pos (starEach [] X.env)).any (·.1) = false := by rfl) : FE X T E (.Call (.Name x p) [.Name y p1] [] pos) (dTell i g f) := by
  obtain ⟨fa, fd, F, hm, hkp, hb⟩ := F
  refine FE.mk' (pe_call (E := E) F (hr.mono (Nat.le_of_ble_eq_true hk)) hg hm hkp hb .nil passAny (pa_cons (pe_var hN hv hd hcd) pa_nil he) hdb he hpl) fun sg H Q ⟨H0, G0, r, G, Qd, Ed, h, er, ⟨q, mk, past, hi, hg, hf⟩, k, x⟩ => ?_
  obtain ⟨_, a1, p, dx, wv, rfl, ap, dm⟩ := er.fct i _ hi
  have a2 := h.sub p _ ap
  obtain ⟨p', u', b1, b2, b3, b4, ms, eu, eq, dp⟩ := er.obj g _ hg
  subst eu eq
  have D : DrD X.K T p q wv ms mk past H G := ⟨h.refl, ⟨⟨dx, a2⟩, b2⟩, dm, dp, b3⟩
  exact ⟨.ref p, a1, p, q, wv, ms, mk, past, G, Qd, rfl, D, ⟨p, dx, wv, rfl, ap, dm⟩, hf, fun d v H' G' z pd hq => k d v H' G' z pd hq⟩
/-- x(drawer, e, ..), that changes it -/
theorem fc_def {i g j k : Nat} {x y : Str} {ps : List Str} {f : FDr} {ts : DA} {p p1 : Pos} (F : OkD X.prog X.w X.K X.mg X.base k x ps (spEF X.K T f)) (hr : Room j X.A) (hg : Gl X x) (ha : FA X T E es ts) (hk : Nat.ble k j = true := by rfl)
    (hN : X.N[i]? = some y := by rfl) (hv : Vis X.env.scope y := by first | exact Or.inl rfl | exact Or.inr (Or.inl rfl) | exact Or.inr (Or.inr rfl)) (hd : (y == ("__debug__" : Str)) = false := by decide) (hcd : (y == ("__classdict__" : Str)) = false := by decide) (hdb : (x == ("__debug__" : Str)) = false := by decide)
    (he : starEach (.Name y p1 :: es) X.env = (false, eval (.Name y p1) X.env) :: starEach es X.env := by rfl) (hpl : (backTo pos (starEach es X.env)).any (·.1) = false := by rfl) : FC X T E (.Call (.Name x p) (.Name y p1 :: es) [] pos) (dMeN i g f ts) := by
  obtain ⟨fa, fd, F, hm, hkp, hb⟩ := F
  refine FC.mk' (pe_call (E := E) F (hr.mono (Nat.le_of_ble_eq_true hk)) hg hm hkp hb .nil passAny (pa_cons (pe_var hN hv hd hcd) ha.pa he) hdb he hpl) fun sg H Q ⟨H0, G0, r, G, Rd, Ed, h, er, ⟨q, mk, past, hi, hg, w⟩, k, x⟩ => ?_
  obtain ⟨_, a1, p, dx, wv, rfl, ap, dm⟩ := er.fct i _ hi
  have a2 := h.sub p _ ap
  obtain ⟨p', u', b1, b2, b3, b4, ms, eu, eq, dp⟩ := er.obj g _ hg
  subst eu eq
  have D : DrD X.K T p q wv ms mk past H G := ⟨h.refl, ⟨⟨dx, a2⟩, b2⟩, dm, dp, b3⟩
  refine ⟨.ref p, a1, H0, G0, r, G, _, Ed, h, er, w, fun ds vs H1 G1 z1 pv hf => ?_, x⟩
  have D1 := D.grow z1
  refine ⟨p, q, wv, ms, mk, past, vs, ds, G1, _, by rw [List.append_nil], D1, ⟨p, dx, wv, rfl, z1.g0 _ _ ap, dm.up z1.g0⟩, pv, hf, fun d v ms' past' H' G' z2 pd pm hR => ?_⟩
  have D2 := D1.grow z2
  exact k d v _ _ G' (((h.trans z1).trans z2).poke b4 D2.drw.2 D2.gq) (z1.g0.trans z2.g0) ((er.grow (z1.trans z2)).pokeX (o' := .at q past') hg b1 D2.gq b4 ⟨ms', rfl, rfl, pm⟩) pd hR
end
/-! ### bodies that give back an expression which changes -/
def lfRs (K : PySem.W.Frag) (T : Tb) (E : XK) (t : DX) : TS := fun D sg H => ∃ H0 G0 r G Rd Ed, HR T H0 G0 H G ∧ ER K H0 r sg H G ∧ t r Rd Ed ∧
  (∀ d v r' sg' H' G', HR T H0 G0 H' G' → Same G G' → ER K H0 r' sg' H' G' → Dp K G' v d → Rd d r' → D.rt v H') ∧ Xc T E H G Ed
structure FRs (X : Cx) (T : Tb) (E : XK) (sts : List Stmt) (t : DX) : Prop where
  pss : PSs X sts (lfRs X.K T E t)
section
variable {X : Cx} {T : Tb} {E : XK} {e c : Expr} {pos : Pos} {t u : DX} {tc : DT} {sa rest : List Stmt}
theorem FRs.mk' {sts : List Stmt} {te : TS} (h : PSs X sts te) (q : ∀ D sg H, lfRs X.K T E t D sg H → te D sg H) : FRs X T E sts t := ⟨⟨fun pins s sg H D I w => h.run pins s sg H D I (q D sg H w)⟩⟩
theorem frs_ret (he : FC X T E e t) : FRs X T E [.Return (some e) pos] t :=
  FRs.mk' (pss_one (ps_ret he.pe)) fun D sg H ⟨H0, G0, r, G, Rd, Ed, h, er, w, k, x⟩ => ⟨H0, G0, r, G, Rd, Ed, h, er, w, fun d v r' H' G' z sm er' p q => k d v r' sg H' G' z sm er' p q, x⟩
@[simp] def dIfR (tc : DT) (t u : DX) : DX := fun r R E => tc r (fun b => if b = true then t r R E else u r R E) E
theorem frs_if (hc : FT X T E c tc) (ha : FRs X T E sa t) (hr : FRs X T E rest u) : FRs X T E (.If c sa [] pos :: rest) (dIfR tc t u) := by
  refine FRs.mk' (pss_cons (ps_if hc.pt ha.pss pss_nil) hr.pss) fun D sg H ⟨H0, G0, r, G, Rd, Ed, h, er, w, k, x⟩ => ?_
  refine ⟨H0, G0, r, G, _, Ed, h, er, w, fun b H' G' z q => ?_, x⟩
  cases b with
  | true => exact iteT ⟨H0, G0, r, G', Rd, Ed, h.trans z, er.grow z, by rw [if_pos rfl] at q; exact q, fun d v r' sg' H2 G2 z2 sm => k d v r' sg' H2 G2 z2 (z.g0.trans sm), x.up z⟩
  | false => exact iteF ⟨H0, G0, r, G', Rd, Ed, h.trans z, er.grow z, by rw [if_neg Bool.false_ne_true] at q; exact q, fun d v r' sg' H2 G2 z2 sm => k d v r' sg' H2 G2 z2 (z.g0.trans sm), x.up z⟩
end
section
variable {P : Program} {w : World} {K : PySem.W.Frag} {mg : Str → Option Value} {base : Heap} {T : Tb}
/-- return e, by a drawer -/
def fTl (t : DE) (n g : Nat) : PyData → List PyData → M PyData := fun mk past Q E => ∀ q, t (startQ n g q mk past []) Q E
theorem mkDS {x y a : Str} {st : Stmt} {f : Addr} {N : List Str} {k g : Nat} {t : DE} {e : Expr} {pos : Pos} (F : ∃ fd, FunD K x x (defArgs st) (defBody st) (defScope st) [] [] f fd) (hm : mg x = some (.ref f)) (S : FnScope N [a] (defScope st))
    (hbind : ∀ (kV doc pm : Value) (an : Option Addr) (cdv ct : Value) (us : List Value), us.length = ([a] : List Str).length → bindArgs (PySem.W.fnOf x x (defArgs st) (defBody st) (defScope st) .none kV doc pm an cdv ct) ⟨us, []⟩ = pure (([a] : List Str).zip us))
    (hg : N[g]? = some y) (hv : ¬ Vis (defScope st) y) (hbd : defBody st = [.Return (some e) pos])
    (hb : ∀ (cdv : Value) (A : Around) (outer : List Env) (s : Shared) (H : Hp) (E : XK), Room k (A.deeper (envOfC x (defScope st) s.heap.objs.size f cdv)) → FE (cxOf CX0 P w K mg base N x (defScope st) f cdv A outer s H E).nox T E e t) :
    OkD P w K mg base (k + 1) x [a] (spSF K T (fTl t N.length g)) := by
  obtain ⟨fd, F⟩ := F
  refine ⟨f, fd, ?_, hm, F.kp, F.bindsN hbind⟩
  obtain ⟨oc, od, dV, kV, doc, pm, an, cdv, ct, osl, rfl, lk, hcd, _, _⟩ := F.ex
  refine fn_of lk hcd S (fun vs H Q E ⟨p, q, w, ms, mk, past, G, Qd, e, _⟩ => by rw [e]; rfl) fun A outer s H vs Q E hr ⟨p, q, w, ms, mk, past, G, Qd, e, D, gp, hf, kk⟩ => ?_
  refine ⟨_, PSs.nox (pss_ghost0 (by rw [hbd]; exact pss_one (ps_ret (hb cdv A outer s H E hr).pe)) hg hv), some (.ref q), ?_⟩
  subst e
  exact ⟨less H q, G, _, G, Qd, fun _ => False, D.hr.less, er_startQ D gp .nil, hf q, fun d v H' G' z p hq => kk d v H' G' z p hq, fun _ _ _ _ z => z.elim⟩
/-- a body that changes the drawer -/
def fCh (t : DX) (n g : Nat) (l : Nat) : FDr := fun mk past ds Q E => ds.length = l ∧ ∀ q, t (startQ n g q mk past ds) (fun d r' => ∃ past', r'[g]? = some (.obj (.at q past')) ∧ Q d past') E
theorem mkDE {x y : Str} {st : Stmt} {N ps : List Str} {k g l : Nat} {t : DX} (F : ∃ fd, FunD K x x (defArgs st) (defBody st) (defScope st) [] [] (He.ga K x) fd) (hm : mg x = some (.ref (He.ga K x))) (C : CTb K mg base T x) (S : FnScope N ps (defScope st)) (hps : ps.length = l + 1)
    (hbind : ∀ (kV doc pm : Value) (an : Option Addr) (cdv ct : Value) (us : List Value), us.length = ps.length → bindArgs (PySem.W.fnOf x x (defArgs st) (defBody st) (defScope st) .none kV doc pm an cdv ct) ⟨us, []⟩ = pure (ps.zip us))
    (hg : N[g]? = some y) (hv : ¬ Vis (defScope st) y)
    (hb : ∀ (c Pt : Addr) (A : Around) (outer : List Env) (s : Shared) (H : Hp) (E : XK), TabB base mg c Pt → (Pt, x ++ ".<locals>." ++ "<lambda>") ∈ T → (∀ p ∈ T, p.1 = Pt → p.2 = x ++ ".<locals>." ++ "<lambda>") → Room k (A.deeper (envOfC x (defScope st) s.heap.objs.size (He.ga K x) (.ref c))) →
      FRs (cxOf CX0 P w K mg base N x (defScope st) (He.ga K x) (.ref c) A outer s H E).nox T E (defBody st) t) :
    OkD P w K mg base (k + 1) x ps (spEF K T (fCh t N.length g l)) := by
  obtain ⟨fd, F⟩ := F
  refine ⟨He.ga K x, fd, ?_, hm, F.kp, F.bindsN hbind⟩
  obtain ⟨oc, od, dV, kV, doc, pm, an, cdv, ct, osl, rfl, lk, hcd, _, _⟩ := F.ex
  obtain ⟨c, rfl⟩ := He.codeIn_ref hcd
  have ec : He.codeOf K (x, none) = c := He.codeOf_eq lk rfl
  have C1 := C.tb
  have C2 := C.mem
  have C3 := C.uniq
  unfold He.cT at C1 C2 C3
  rw [ec] at C1 C2 C3
  refine fn_of lk hcd S (fun vs H Q E ⟨p, q, w, ms, mk, past, args, ds, G, Qd, e, D, gp, ha, hf, _⟩ => by rw [e, List.length_cons, ha.len, hf.1, hps]) fun A outer s H vs Q E hr ⟨p, q, w, ms, mk, past, args, ds, G, Qd, e, D, gp, ha, hf, kk⟩ => ?_
  refine ⟨_, PSs.nox (pss_ghost0 (hb _ _ A outer s H E C1 C2 C3 hr).pss hg hv), some (.ref q), ?_⟩
  subst e
  refine ⟨less H q, G, _, G, _, _, D.hr.less, er_startQ D gp ha, hf.2 q, fun d v r' sg' H' G' z sm er' pd ⟨past', hr', hq⟩ => ?_, fun _ _ _ _ z => z.elim⟩
  obtain ⟨p', u', b1, b2, b3, b4, ms', eu, eq, dp⟩ := er'.obj g _ hr'
  subst eu eq
  obtain ⟨z2, e2⟩ := HR.unless D.drw.2 D.gq z b2 b3
  have := kk d v ms' past' _ G' z2 pd dp hq
  rw [e2] at this
  exact this
end
end Fd
end
section
set_option Elab.async false
set_option linter.all false
set_option maxRecDepth 100000
set_option autoImplicit false
set_option maxHeartbeats 4000000
/-! Fg9: list comprehensions whose element changes things of one's own. -/
namespace Fd
open PySem PySem.Spec PyProof.Rows L2 LamX
/-- the heap without the things of one's own -/
noncomputable def lessO (H : Hp) (r : Ev) (sg : L2.St) : Hp := fun a => @ite _ (∃ (i : Nat) (o : OD), r[i]? = some (.obj o) ∧ sg[i]? = some (some (.ref a))) (Classical.propDecidable _) none (H a)
section
variable {K : PySem.W.Frag} {T : Tb} {H0 G0 H G H' G' : Hp} {r r' : Ev} {sg sg' : L2.St}
theorem lessO_in {a : Addr} (h : ∃ (i : Nat) (o : OD), r[i]? = some (.obj o) ∧ sg[i]? = some (some (.ref a))) : lessO H r sg a = none := if_pos h
theorem lessO_out {a : Addr} (h : ¬ ∃ (i : Nat) (o : OD), r[i]? = some (.obj o) ∧ sg[i]? = some (some (.ref a))) : lessO H r sg a = H a := if_neg h
theorem HR.lessO (h : HR T H0 G0 H G) : HR T (Fd.lessO H r sg) G H G := by
  refine ⟨h.sub, h.nt, h.tabs, fun a o e n => ?_, Same.refl _, fun a z => .inl z⟩
  by_cases ha : ∃ (i : Nat) (o : OD), r[i]? = some (.obj o) ∧ sg[i]? = some (some (.ref a))
  · rw [lessO_in ha] at e; cases e
  · rw [lessO_out ha] at e; exact e
theorem ER.lessO (e : ER K H0 r sg H G) : ER K (Fd.lessO H r sg) r sg H G :=
  ⟨e.len, e.dat, fun i o z => by
    obtain ⟨p, u, a, b, c, n, d⟩ := e.obj i o z
    exact ⟨p, u, a, b, c, NT.none (lessO_in ⟨i, o, z, a⟩), d⟩, e.inj, e.fct⟩
theorem nt_back (h : HR T H0 G0 H G) (e : ER K H0 r sg H G) {a : Addr} (n : NT (Fd.lessO H r sg) a) : NT H0 a := by
  by_cases ha : ∃ (i : Nat) (o : OD), r[i]? = some (.obj o) ∧ sg[i]? = some (some (.ref a))
  · obtain ⟨i, o, z1, z2⟩ := ha
    obtain ⟨p, u, a1, _, _, n1, _⟩ := e.obj i o z1
    rw [z2] at a1
    cases a1
    exact n1
  · refine NT.back h.ext fun o ho => n o ?_
    rw [lessO_out ha]; exact ho
theorem HR.unlessO (h : HR T H0 G0 H G) (e : ER K H0 r sg H G) (z : HR T (Fd.lessO H r sg) G H' G') : HR T H0 G0 H' G' := by
  refine ⟨z.sub, z.nt, z.tabs, fun a o q n => ?_, h.g0.trans z.g0, fun a q => ?_⟩
  · by_cases ha : ∃ (i : Nat) (o : OD), r[i]? = some (.obj o) ∧ sg[i]? = some (some (.ref a))
    · obtain ⟨i, o', z1, z2⟩ := ha
      obtain ⟨p, u, a1, _, _, n1, _⟩ := e.obj i o' z1
      rw [z2] at a1
      cases a1
      obtain ⟨ps, e⟩ := n1 o q
      exact absurd e (n ps)
    · exact z.ext a o (by rw [lessO_out ha]; exact h.ext a o q n) n
  · rcases z.new a q with y | y
    · exact h.new a y
    · exact .inr (nt_back h e y)
theorem ER.unlessO (h : HR T H0 G0 H G) (e : ER K H0 r sg H G) (z : ER K (Fd.lessO H r sg) r' sg' H' G') : ER K H0 r' sg' H' G' :=
  ⟨z.len, z.dat, fun i o q => by
    obtain ⟨p, u, a, b, c, n, d⟩ := z.obj i o q
    exact ⟨p, u, a, b, c, nt_back h e n, d⟩, z.inj, z.fct⟩
theorem wipeD_len (r : Ev) : ∀ vs : List Nat, (wipeD r vs).length = r.length
  | [] => rfl
  | v :: vs => by unfold wipeD; rw [List.length_set]; exact wipeD_len r vs
theorem wipeD_in (r : Ev) : ∀ (vs : List Nat) (j : Nat) (x : Sl), j ∈ vs → (wipeD r vs)[j]? = some x → x = .no
  | [], _, _, h, _ => by cases h
  | v :: vs, j, x, h, e => by
    unfold wipeD at e
    rcases getSet e with ⟨_, q⟩ | ⟨n, q⟩
    · exact q
    · rcases List.mem_cons.mp h with z | z
      · exact absurd z n
      · exact wipeD_in r vs j x z q
theorem ER.unwipe {vs : List Nat} (e : ER K H0 (wipeD r vs) (L2.wipe sg vs) H G) : ER K H0 (wipeD r vs) sg H G := by
  have at_ : ∀ (j : Nat) x, (wipeD r vs)[j]? = some x → x ≠ .no → (L2.wipe sg vs)[j]? = sg[j]? := fun j x h n => wipe_out sg vs j fun hj => n (wipeD_in r vs j x hj h)
  refine ⟨by rw [e.len, wipe_length], fun i d z => ?_, fun i o z => ?_, fun i j o o' p z z' y y' => ?_, fun i f z => ?_⟩
  · rw [← at_ i _ z (by simp)]; exact e.dat i d z
  · rw [← at_ i _ z (by simp)]; exact e.obj i o z
  · rw [← at_ i _ z (by simp)] at y
    rw [← at_ j _ z' (by simp)] at y'
    exact e.inj i j o o' p z z' y y'
  · rw [← at_ i _ z (by simp)]; exact e.fct i f z
theorem ER.freezeOut {p : Addr} {u : HO} (e : ER K H0 r sg H G) (np : ∀ (j : Nat) es, r[j]? = some (.obj es) → sg[j]? ≠ some (some (.ref p))) (sm : Same G (upd G p u)) : ER K H0 r sg H (upd G p u) :=
  ⟨e.len, fun i d z => let ⟨v, a, b⟩ := e.dat i d z; ⟨v, a, b.up sm⟩, fun i o z => by
    obtain ⟨q, w, a, b, c, n, d⟩ := e.obj i o z
    exact ⟨q, w, a, b, by rw [upd_ne (fun y => np i o z (by rw [← y]; exact a))]; exact c, n, d.up sm⟩, e.inj, fun i f z => let ⟨v, a, b⟩ := e.fct i f z; ⟨v, a, b.up sm⟩⟩
end
def dLcGoC (g : DG) (tt : DT) (te : DX) (vs : List Nat) (R : List PyData → Ev → Prop) : List PyData → Ev → List PyData → Prop
  | [], r, acc => R acc r
  | d :: ds, r, acc => g d r fun r2 => tt r2 (fun b => if b = true then te r2 (fun y r3 => dLcGoC g tt te vs R ds (wipeD r3 vs) (acc ++ [y])) (fun _ => False) else dLcGoC g tt te vs R ds (wipeD r2 vs) acc) (fun _ => False)
@[simp] def dLcC (ti : DA) (g : DG) (tt : DT) (te : DX) (vs : List Nat) : DX := fun r R E => ti r (fun ds => ds.length ≤ sizeLine ∧ dLcGoC g tt te vs (fun ys r' => R (.list ys) r') ds (wipeD r vs) []) E
section
variable {X : Cx} {T : Tb} {E : XK} {e : Expr} {pos : Pos}
theorem lcC_of {K : PySem.W.Frag} {is vs : List Nat} {ti : DA} {g : DG} {tt : DT} {te : DX} (hv : ∀ i ∈ is, i ∈ vs) : ∀ sg H Q, lfC K T E (dLcC ti g tt te vs) sg H Q → tLc (lfI K T E true ti) (lfG K T is g) (lfT K T E tt) (lfC K T E te) vs sg H Q := by
  intro sg H Q ⟨H0, G0, r, G, Rd, Ed, h, er, w, k, x⟩
  refine ⟨H0, G0, r, G, _, Ed, h, er, w, fun ds J P H1 G1 z wk pe pf ⟨hz, q⟩ D hD => ?_, x⟩
  have h1 := h.trans z
  have nD : NT H0 D := (NT.none hD).back h1.ext
  have gD : G1 D = none := by
    cases qq : G1 D with
    | none => rfl
    | some u => rw [z.sub D u qq] at hD; cases hD
  have hOwn0 : ∀ (j : Nat) es, (wipeD r vs)[j]? = some (.obj es) → (L2.wipe sg vs)[j]? ≠ some (some (.ref D)) := fun j es a b => by
    obtain ⟨p, us, a1, a2, _, _, a3⟩ := ((er.grow z).wipe vs).obj j es a
    rw [b] at a1
    cases a1
    rw [hD] at a2
    cases a2
  have wl : Walk J ds.length P (fun i H x H' => J.yld i H x H') := ⟨wk.goes, wk.stops, fun _ _ _ _ _ _ y => y⟩
  have z0 : HR T H1 G1 (upd H1 D (.lst [])) G1 := z.laidO hD
  refine lc_it wl (fun i Hc => ∃ Gc acc ys rc, HR T H0 G0 Hc Gc ∧ Same G1 Gc ∧ ER K H0 (wipeD rc vs) (L2.wipe sg vs) Hc Gc ∧ (∀ (j : Nat) es, (wipeD rc vs)[j]? = some (.obj es) → (L2.wipe sg vs)[j]? ≠ some (some (.ref D))) ∧ Hc D = some (.lst acc) ∧ Gc D = none ∧ DpAll K Gc acc ys ∧ acc.length ≤ i ∧ dLcGoC g tt te vs (fun ys r' => Rd (.list ys) r') (ds.drop i) (wipeD rc vs) ys)
    ⟨G1, [], [], r, h1.trans z0, Same.refl _, ((er.grow z).grow z0).wipe vs, hOwn0, upd_same, gD, .nil, Nat.le_refl _, q⟩ (fun i Hc _ ⟨Gc, _, _, _, a1, a2, _⟩ => pf rfl Hc (a2.trans a1.sub)) (fun i v Hc H' hi ⟨Gc, acc, ys, rc, a1, a3, a4, a10, a5, a6, a7, a8, a9⟩ y => ?_) fun Hc ⟨Gc, acc, ys, rc, a1, a3, a4, a10, a5, a6, a7, a8, a9⟩ => ?_
  · obtain ⟨G2, dd, e1, e2, e3⟩ := wk.yields i Hc Gc v H' hi (pf rfl Hc (a3.trans a1.sub)) a1.refl a3 y
    rw [drop_at e1] at a9
    have b1 := a1.trans e2
    have b4 := a4.grow e2
    have D' : H' D = some (.lst acc) := e2.ext D _ a5 fun ps q => by cases q
    have G2D : G2 D = none := e2.noNew a5 a6
    have nOut : ¬ ∃ (i : Nat) (o : OD), (wipeD rc vs)[i]? = some (.obj o) ∧ (L2.wipe sg vs)[i]? = some (some (.ref D)) := fun ⟨i, o, q1, q2⟩ => a10 i o q1 q2
    have L0 : HR T (lessO H' (wipeD rc vs) (L2.wipe sg vs)) G2 H' G2 := b1.lessO
    have L0D : lessO H' (wipeD rc vs) (L2.wipe sg vs) D = some (.lst acc) := by rw [lessO_out nOut]; exact D'
    refine ⟨_, G2, wipeD rc vs, G2, dd, _, L0, b4.lessO, e3, a9, fun r2 sg2 H2 G3 z2 er2 l2 s2 w2 => ⟨wipe_same l2 fun j hj => s2 j fun q => hj (hv j q), ?_⟩⟩
    have ws : L2.wipe sg2 vs = L2.wipe sg vs := wipe_same l2 fun j hj => s2 j fun q => hj (hv j q)
    refine ⟨_, G2, r2, G3, _, _, L0.trans z2, er2, w2, fun b H3 G4 z3 w3 => ?_, fun _ _ _ _ q => q.elim⟩
    have c1 := (L0.trans z2).trans z3
    have er3 := er2.grow z3
    have ec : HR T Hc Gc H3 G4 := (e2.trans z2).trans z3
    have D3 : H3 D = some (.lst acc) := ec.ext D _ a5 fun ps q => by cases q
    have G4D : G4 D = none := ec.noNew a5 a6
    have nD3 : ∀ {r3 : Ev} {s3 : L2.St} {Hx Gx : Hp}, ER K (lessO H' (wipeD rc vs) (L2.wipe sg vs)) r3 s3 Hx Gx → ∀ (j : Nat) es, r3[j]? = some (.obj es) → s3[j]? ≠ some (some (.ref D)) := fun e j es q1 q2 => by
      obtain ⟨p, u, f1, _, _, f4, _⟩ := e.obj j es q1
      rw [q2] at f1
      cases f1
      obtain ⟨ps, q⟩ := f4 _ L0D
      cases q
    cases b with
    | true =>
      rw [if_pos rfl] at w3
      refine iteT ?_
      refine ⟨_, G2, r2, G4, _, _, c1, er3, w3, fun dy vy r3 H4 G5 z4 sm4 er4 py wy => ?_, fun _ _ _ _ q => q.elim⟩
      have D4 : H4 D = some (.lst acc) := z4.ext D _ L0D fun ps q => by cases q
      have G5D : G5 D = none := z4.noNew L0D G2D
      have er5 := (er4.wipe vs)
      rw [ws] at er5
      have hR := HR.unlessO b1 b4 z4
      have er6 := ER.unlessO b1 b4 er5
      have sm : Same Gc G5 := e2.g0.trans z4.g0
      exact ⟨acc, D4, by omega, G5, acc ++ [vy], ys ++ [dy], r3, hR.poke nD D4 G5D, a3.trans sm, er6.poke (nD3 er5), nD3 er5, upd_same, G5D, (a7.up sm).app (.cons py .nil), by simp; omega, wy⟩
    | false =>
      rw [if_neg Bool.false_ne_true] at w3
      refine iteF ?_
      have er5 := (er3.wipe vs)
      rw [ws] at er5
      exact ⟨G4, acc, ys, r2, HR.unlessO b1 b4 c1, a3.trans ec.g0, ER.unlessO b1 b4 er5, nD3 er5, D3, G4D, a7.up ec.g0, by omega, w3⟩
  · rw [List.drop_length] at a9
    obtain ⟨zf, sm⟩ := a1.freeze a5 nD
    have ef := (a4.freezeOut a10 sm).unwipe
    exact k _ _ _ Hc _ zf ((z.g0.trans a3).trans sm) ef (.lst (SqL.of upd_same) (a7.up sm)) a9
variable {elt tg iter : Expr} {ifs : List Expr} {scope : Scope} {own : List (Str × Nat)} {ti : DA} {g : DG} {tt : DT} {te : DX} {is : List Nat}
theorem fc_lc (hc : X.calm = true) (hN : X.N.Nodup) (hi : FI X T E true tg iter ti) (ok : BlkOk X.N X.env.scope scope own)
    (hg : ∀ (s : Shared) (H : Hp) (C : Addr) (cl : List (Str × Addr)) (fp : List Addr), FG (X.blk s H scope (compEnvC scope cl C X.env) fp) T is tg g) (ht : ∀ (s : Shared) (H : Hp) (C : Addr) (cl : List (Str × Addr)) (fp : List Addr), FTs (X.blk s H scope (compEnvC scope cl C X.env) fp) T E ifs tt)
    (he : ∀ (s : Shared) (H : Hp) (C : Addr) (cl : List (Str × Addr)) (fp : List Addr), FC (X.blk s H scope (compEnvC scope cl C X.env) fp) T E elt te) (hv : ∀ i ∈ is, i ∈ own.map (·.2) := by decide) (hs : ∀ x, foldedSetIterable iter X.env x = pure x := by intro _; rfl) :
    FC X T E (.ListComp elt [⟨tg, iter, ifs, 0⟩] scope pos) (dLcC ti g tt te (own.map (·.2))) :=
  FC.mk' (pe_lc hc hN hi.pi ok (fun s H C cl fp => (hg s H C cl fp).pg) (fun s H C cl fp => (ht s H C cl fp).pts) (fun s H C cl fp => (he s H C cl fp).pe) hs) (lcC_of hv)
theorem fs_setLcC {i : Nat} {y : Str} {py spos : Pos} (hc : X.calm = true) (hN : X.N.Nodup) (hy : X.N[i]? = some y) (hyl : X.env.scope.names.lookup y = some .local)
    (hsw : swapsWith (.ListComp elt [⟨tg, iter, ifs, 0⟩] scope pos) (some (.Name y py)) spos.line X.env = pure true) (hi : FI X T E true tg iter ti) (ok : BlkOk X.N X.env.scope scope own)
    (hg : ∀ (s : Shared) (H : Hp) (C : Addr) (cl : List (Str × Addr)) (fp : List Addr), FG (X.blk s H scope (compEnvC scope cl C X.env) fp) T is tg g) (ht : ∀ (s : Shared) (H : Hp) (C : Addr) (cl : List (Str × Addr)) (fp : List Addr), FTs (X.blk s H scope (compEnvC scope cl C X.env) fp) T E ifs tt)
    (he : ∀ (s : Shared) (H : Hp) (C : Addr) (cl : List (Str × Addr)) (fp : List Addr), FC (X.blk s H scope (compEnvC scope cl C X.env) fp) T E elt te) (hv : ∀ i ∈ is, i ∈ own.map (·.2) := by decide) (hs : ∀ x, foldedSetIterable iter X.env x = pure x := by intro _; rfl) :
    FS X T E (.Assign [.Name y py] (.ListComp elt [⟨tg, iter, ifs, 0⟩] scope pos) spos) (dSetC i (dLcC ti g tt te (own.map (·.2)))) :=
  FS.mk' (ps_setLc hc hN hy hyl hsw hi.pi ok (fun s H C cl fp => (hg s H C cl fp).pg) (fun s H C cl fp => (ht s H C cl fp).pts) (fun s H C cl fp => (he s H C cl fp).pe) hs) fun D sg H ⟨H0, G0, r, G, Dd, h, er, w, k⟩ =>
    lcC_of hv _ _ _ ⟨H0, G0, r, G, _, _, h, er, w, fun d v r' H' G' z sm er' p q => k.nx _ _ H' G' z sm (er'.set i p) q, k.xc h⟩
/-- f(M) of a built-in type -/
@[simp] def dCallC (f : List PyData → M PyData) (t : DX) : DX := fun r R E => t r (fun d r' => f [d] (fun x => R x r') (fun _ => False)) E
theorem fc_callTy {id : String} {rr : List V → Hp → VK → Prop} {x : Str} {p : Pos} {ff : List PyData → M PyData} {t : DX} (hc : CallR X (.type id) rr) (hd : CallD X.K T rr ff) (hg : Gl X x) (hm : X.mg x = none) (hv : bootBuiltins x = some (.type id)) (ha : FC X T E e t) (hn : x ≠ "__name__" := by decide) (hdb : (x == ("__debug__" : Str)) = false := by decide)
    (he : starEach [e] X.env = (false, eval e X.env) :: starEach [] X.env := by rfl) (hpl : (backTo pos (starEach [] X.env)).any (·.1) = false := by rfl) : FC X T E (.Call (.Name x p) [e] [] pos) (dCallC ff t) := by
  refine FC.mk' (pe_callTy hc hg hm hv (pa_cons ha.pe pa_nil he) hn hdb he hpl) fun sg H Q ⟨H0, G0, r, G, Rd, Ed, h, er, w, k, x⟩ => ?_
  refine ⟨H0, G0, r, G, _, Ed, h, er, w, fun d v r' H1 G1 h1 sm er1 p1 w1 => ?_, x⟩
  exact hd [v] [d] H1 G1 _ _ Q h1.refl (.cons p1 .nil) w1 fun d v H' G' z pd q => k d v r' H' G' (h1.trans z) (sm.trans z.g0) (er1.grow z) pd q
end
end Fd
end
section
set_option Elab.async false
set_option linter.all false
set_option maxRecDepth 100000
set_option autoImplicit false
set_option maxHeartbeats 4000000
/-! Fga: calls by contracts at HandS' level; slices of lists of one's own; x, y = [..], [..]. -/
namespace Fd
open PySem PySem.Spec PyProof.Rows L2 LamX
theorem not_vis {sc : Scope} {y : Str} (h : sc.names.lookup y = none) : ¬ Vis sc y := by
  intro z
  rcases z with z | z | z <;> (rw [h] at z; cases z)
section
variable {X : Cx} {T : Tb} {E : XK} {a b e o : Expr} {es : List Expr} {pos : Pos}
theorem pe_okF {j k : Nat} {x : Str} {ps : List Str} {p : Pos} {ff : List PyData → M PyData} {t : TA} (F : Ok X.prog X.w X.K X.mg X.base T k x ps ff) (hr : Room j X.A) (hg : Gl X x) (ha : PA X (e :: es) t) (hk : Nat.ble k j = true := by rfl) (hdb : (x == ("__debug__" : Str)) = false := by decide) (he : starEach (e :: es) X.env = (false, eval e X.env) :: starEach es X.env := by rfl)
    (hpl : (backTo pos (starEach es X.env)).any (·.1) = false := by rfl) : PE X (.Call (.Name x p) (e :: es) [] pos) (tCall (spF X.K T ff) [] noX t) := by
  obtain ⟨f, fd, F, hm, hkp, hb, _⟩ := F
  exact pe_call F (hr.mono (Nat.le_of_ble_eq_true hk)) hg hm hkp hb .nil passAny ha hdb he hpl
theorem pe_okX {j k : Nat} {x : Str} {ps : List Str} {p : Pos} {ff : List PyData → M PyData} {t : TA} (F : OkX X.prog X.w X.K X.mg X.base T k x ps ff) (tx : TX X (fun c d H => E (clsOf X.K c) d H)) (hr : Room j X.A) (hg : Gl X x) (ha : PA X (e :: es) t) (hk : Nat.ble k j = true := by rfl) (hdb : (x == ("__debug__" : Str)) = false := by decide) (he : starEach (e :: es) X.env = (false, eval e X.env) :: starEach es X.env := by rfl)
    (hpl : (backTo pos (starEach es X.env)).any (·.1) = false := by rfl) : PE X (.Call (.Name x p) (e :: es) [] pos) (tCall (spX X.K T ff) [] (exW X.K E) t) := by
  obtain ⟨f, fd, F, hm, hkp, hb⟩ := F
  exact pe_call F (hr.mono (Nat.le_of_ble_eq_true hk)) hg hm hkp hb .nil (tx_pass tx) ha hdb he hpl
theorem pe_okM {j k : Nat} {m : Str} {ps : List Str} {sp : Sp} {t : TA} {ta : TE} {apos : Pos} {pl : Sem Bool} (c : DrC X.K) (F : OkMe X.prog X.w X.K X.mg X.base k m ps sp) (hr : Room j X.A) (ho : PE X o ta) (ha : PA X (e :: es) t) (hk : Nat.ble k j = true := by rfl)
    (hst : starEach (e :: es) X.env = (false, eval e X.env) :: starEach es X.env := by rfl) (hpl : (backTo pos (starEach es X.env)).any (·.1) = false := by rfl)
    (ht : eval (.Call (.Attribute o m apos) (e :: es) [] pos) X.env = (do
      let ov ← eval o X.env
      standAt apos.atName
      let (f, first) ← holding [ov] (getMethod ov m pl)
      callWith pos f first (backTo pos (starEach (e :: es) X.env)) (backToKw pos (keywordEach [] X.env))) := by rfl) : PE X (.Call (.Attribute o m apos) (e :: es) [] pos) (tMeth (DC X.K) m sp [] noX ta t) := by
  obtain ⟨fa, fd, F, hM, hb⟩ := F
  exact pe_meth ho c.cls hM F (hr.mono (Nat.le_of_ble_eq_true hk)) hb .nil pass_never ha hst hpl ht
theorem pe_okM0 {j k : Nat} {m : Str} {ps : List Str} {sp : Sp} {ta : TE} {apos : Pos} {pl : Sem Bool} (c : DrC X.K) (F : OkMe X.prog X.w X.K X.mg X.base k m ps sp) (hr : Room j X.A) (ho : PE X o ta) (hk : Nat.ble k j = true := by rfl)
    (ht : eval (.Call (.Attribute o m apos) [] [] pos) X.env = (do
      let ov ← eval o X.env
      standAt apos.atName
      let (f, first) ← holding [ov] (getMethod ov m pl)
      callWith pos f first (backTo pos (starEach [] X.env)) (backToKw pos (keywordEach [] X.env))) := by rfl) : PE X (.Call (.Attribute o m apos) [] [] pos) (tMeth (DC X.K) m sp [] noX ta tNil) := by
  obtain ⟨fa, fd, F, hM, hb⟩ := F
  exact pe_meth0 ho c.cls hM F (hr.mono (Nat.le_of_ble_eq_true hk)) hb .nil pass_never ht
/-! ### slices of one's own list -/
theorem sqL_ext {K : PySem.W.Frag} {H H' : Hp} {p : Addr} {vs : List V} (h : SqL K H p vs) (e : ExtN H H') : SqL K H' p vs := by
  rcases h with (h | ⟨o, h⟩) | h
  · exact .inl (.inl (e _ _ h fun ps z => by cases z))
  · exact .inl (.inr ⟨o, e _ _ h fun ps z => by cases z⟩)
  · exact .inr h
@[simp] def dSlQ (tq : DQ) (tl th : DO) : DA := fun r Q E => tq r (fun b ds => b = true ∧ tl r (fun lo => th r (fun hi => Q (cutD ds lo hi)) E) E) E
theorem fn_sliceQ {lo hi : Option Expr} {tq : DQ} {tl th : DO} {p2 : Pos} (ha : FQ X T E e tq) (hl : FO X T E lo tl) (hu : FO X T E hi th) : FN X T E (.Subscript e (.Slice lo hi none p2) pos) (dSlQ tq tl th) := by
  refine FN.mk' (pe_slice sl_list ha.pe hl.po hu.po) fun sg H Q ⟨H0, G0, r, G, Qd, Ed, h, er, w, k, x⟩ => ?_
  refine ⟨H0, G0, r, G, _, Ed, h, er, w, fun b ds a vs H1 G1 h1 sq p1 ⟨hb, w1⟩ => ?_, x⟩
  subst hb
  refine ⟨H0, G0, r, G1, _, Ed, h.trans h1, er.grow h1, w1, fun l H2 G2 h2 w2 => ?_, x.up h1⟩
  refine ⟨H0, G0, r, G2, _, Ed, (h.trans h1).trans h2, (er.grow h1).grow h2, w2, fun u H3 G3 h3 w3 => ?_, (x.up h1).up h2⟩
  have h13 := (h1.trans h2).trans h3
  refine ⟨a, vs, rfl, sqL_ext sq (h2.ext.trans h3.ext), fun p hp => ?_⟩
  have gp : G3 p = none := by
    cases q : G3 p with
    | none => rfl
    | some u => rw [h3.sub p u q] at hp; cases hp
  exact k _ p _ _ G3 (h13.trans (h13.laidO hp)) ((NT.none hp).back h13.ext) upd_same gp ((cut_of p1 l u).up (h2.g0.trans h3.g0)) w3
/-! ### x, y = [..], [..] -/
@[simp] def dParO (i j : Nat) (ta tb : DA) : DS := fun D r => ta r (fun ds => tb r (fun es => D.nx ((r.set i (.own ds)).set j (.own es))) D.ex) D.ex
theorem fs_parO {i j : Nat} {x y : Str} {kt k2 : Nat} {ta tb : DA} {px py pt pt2 : Pos} (hc : X.calm = true) (hN : X.N.Nodup) (hi : X.N[i]? = some x) (hj : X.N[j]? = some y) (hij : i ≠ j) (hx : X.env.scope.names.lookup x = some .local) (hy : X.env.scope.names.lookup y = some .local) (hw : swappedStores [.Tuple [.Name x px, .Name y py] kt pt] (.Tuple [a, b] k2 pt2) X.env = pure (some [x, y])) (ha : FN X T E a ta) (hb : FN X T E b tb)
    (hs1 : starEach [a, b] X.env = (false, eval a X.env) :: starEach [b] X.env := by rfl) (hs2 : starEach [b] X.env = (false, eval b X.env) :: starEach [] X.env := by rfl) :
    FS X T E (.Assign [.Tuple [.Name x px, .Name y py] kt pt] (.Tuple [a, b] k2 pt2) pos) (dParO i j ta tb) := by
  refine FS.mk' (ps_par hc hN hi hj hij hx hy (pa_cons ha.pe (pa_cons hb.pe pa_nil hs2) hs1) hw) fun D sg H ⟨H0, G0, r, G, Dd, h, er, w, k⟩ => ?_
  refine ⟨H0, G0, r, G, _, _, h, er, w, fun ds p vs H1 G1 z1 n1 hp1 gp1 d1 w1 => ?_, k.xc h⟩
  refine ⟨H0, G0, r, G1, _, _, h.trans z1, er.grow z1, w1, fun es q us H2 G2 z2 n2 hp2 gp2 d2 w2 => ?_, (k.xc h).up z1⟩
  refine ⟨_, _, rfl, ?_⟩
  have e1 := er.setNew z1 h i (o := .lst ds) n1 hp1 gp1 ⟨vs, rfl, d1⟩
  exact k.nx _ _ H2 G2 ((h.trans z1).trans z2) (z1.g0.trans z2.g0) (e1.setNew z2 (h.trans z1) j (o := .lst es) n2 hp2 gp2 ⟨us, rfl, d2⟩) w2
end
end Fd
end
section
set_option Elab.async false
set_option linter.all false
set_option maxRecDepth 100000
set_option autoImplicit false
set_option maxHeartbeats 4000000
/-! Fgb: a def that is entered where no repr is under way (the law's own): repr of data; the law's end by such a promise. -/
namespace Fd
open PySem PySem.Spec PyProof.Rows L2 LamX
/-- a def's promise where no repr is under way -/
structure FnG (P : Program) (w : World) (K : PySem.W.Frag) (mg : Str → Option Value) (base : Heap) (k : Nat) (f : Addr) (fd : FuncData) (ps : List Str) (sp : Sp) : Prop where
  go : ∀ (A : Around) (out : List Env) (s : Shared) (H : Hp) (as : Args) (us : List Value) (vs : List V) (Q : VK) (E : XK), A.guards = some [] → Room k A → Env0 P w K mg base A out s H →
    BindsTo s fd as (ps.zip us) → Vals vs us → sp vs H Q E → codeAny (model P w) A (.call (.ref f) as) (CR CX0 out P w H s Q E) s
theorem fnG_of {P : Program} {w : World} {K : PySem.W.Frag} {mg : Str → Option Value} {base : Heap} {k : Nat} {f : Addr} {nm ql : Str} {pa : Arguments} {bd : List Stmt} {sc : Scope} {d1 d2 d3 d4 cd ct oc : Value} {an od : Option Addr} {sl : Array (Option Value)} {N ps : List Str} {sp : Sp}
    (lk : K.lookup f = some ⟨oc, od, .func (PySem.W.fnOf nm ql pa bd sc d1 d2 d3 d4 an cd ct), sl⟩) (hcd : PySem.W.codeIn K cd ql = true) (S : FnScope N ps sc) (len : ∀ vs H Q E, sp vs H Q E → vs.length = ps.length)
    (hb : ∀ (A : Around) (out : List Env) (s : Shared) (H : Hp) (vs : List V) (Q : VK) (E : XK), A.guards = some [] → Room k (A.deeper (envOfC ql sc s.heap.objs.size f cd)) → sp vs H Q E →
      ∃ t, PSs (cxOf CX0 P w K mg base N ql sc f cd A out s H E) bd t ∧ t { nx := fun _ H' => Q .non H', rt := Q } (L2.start N vs) H) :
    FnG P w K mg base (k + 1) f (PySem.W.fnOf nm ql pa bd sc d1 d2 d3 d4 an cd ct) ps sp := by
  refine ⟨fun A out s H as us vs Q E ga rm e0 bn rv hs => ?_⟩
  have inK : K.In s.heap := e0.mod.kin.keeps fun b o z => (e0.bs b o z).1
  have nl : s.heap.NoLimit := e0.mod.nolimit.keeps fun b o z => (e0.bs b o z).1
  have kd : ∀ y ∈ ps.zip us, sc.names.lookup y.1 = some .local ∨ (sc.names.lookup y.1 = some .cell ∧ ((cellsFrom (s.heap.objs.size + 1) sc.names []).lookup y.1).isSome = true) := by
    rintro ⟨n, v⟩ hy
    refine (S.par n (List.of_mem_zip hy).1).imp id fun q => ⟨q, PySem.W.cellsFrom_some _ _ _ (.inl q)⟩
  refine codeAny_call_function rm.depth (inK _ _ lk) rfl S.co S.gen rfl (PySem.W.codeRec_of inK hcd) (bn _ _ _ _ ?_)
  refine wpAny_newFunctionEnv_cells S.kind kd fun env he s1 x1 => ?_
  subst he
  refine ⟨nl.keeps x1.toInCall.keep, codeAny_func ?_⟩
  obtain ⟨t, pt, qt⟩ := hb A out s H vs Q E ga (rm.deeper _) hs
  have I0 : Inv (cxOf CX0 P w K mg base N ql sc f cd A out s H E) [] (L2.start N vs) H s1 := inv_start S rm.hd e0 (len _ _ _ _ hs) rv x1
  refine wpAny_mono (pt.run [] s1 (L2.start N vs) H _ I0 qt) (fun fl s' z => ?_) fun _ _ z => z
  cases fl with
  | next =>
    obtain ⟨sg', H', J, q⟩ := z
    exact ⟨.non, H', J.os, J.bare, J.base, J.hok, rfl, q⟩
  | ret u =>
    obtain ⟨v, sg', H', J, r, q⟩ := z
    exact ⟨v, H', J.os, J.bare, J.base, J.hok, r, q⟩
  | brk => exact (let ⟨_, _, _, q⟩ := z; q.elim)
  | cont => exact (let ⟨_, _, _, q⟩ := z; q.elim)
section
variable {X : Cx} {T : Tb} {E : XK} {e : Expr} {pos : Pos}
/-- repr of a list, a tuple -/
def rRepr (K : PySem.W.Frag) : List V → Hp → VK → Prop := fun xs H Q => ∃ a d, xs = [.ref a] ∧ Dp K H (.ref a) d ∧ d.showable = true ∧ d.hasDict = false ∧ d.depth ≤ 60 ∧ d.shown.length ≤ sizeLine ∧ Q (.str d.shown) H
theorem call_reprD (hg : X.A.guards = some []) (hu : X.A.units + 65 < cLine) : CallR X (.builtin "repr") (rRepr X.K) := by
  intro pins s σ H xs us Q I r h
  obtain ⟨a, d, rfl, hd, hs, hn, hz, hl, q⟩ := h
  obtain ⟨u, rfl, rx⟩ := vals1 r
  cases rx
  obtain ⟨as, rd⟩ := Dp.reads I d _ _ hd rfl
  exact repr_of_reads' rd hs (PyData.noDict_hsm hn) hg (by omega) (fun _ _ z => z) (fun h' t tk hk => ⟨.str _, H, I.kept hk, ⟨t, rfl⟩, q⟩) hl
def dRepr : List PyData → M PyData
  | [.tuple ds], Q, _ => (PyData.tuple ds).showable = true ∧ (PyData.tuple ds).hasDict = false ∧ (PyData.tuple ds).depth ≤ 60 ∧ (PyData.tuple ds).shown.length ≤ sizeLine ∧ Q (.str (PyData.tuple ds).shown)
  | _, _, _ => False
theorem cd_repr {K : PySem.W.Frag} : CallD K T (rRepr K) dRepr := by
  intro vs ds H G Qd Ed Q h p w k
  cases p with
  | nil => exact w.elim
  | cons p1 p2 =>
    cases p2 with
    | cons => cases p1 <;> exact w.elim
    | nil =>
      cases p1 with
      | @tup _ xs ds hs ha => exact ⟨_, _, rfl, (Dp.tup hs ha).up h.sub, w.1, w.2.1, w.2.2.1, w.2.2.2.1, k _ _ H G h (.str _) w.2.2.2.2⟩
      | _ => exact w.elim
end
end Fd
end
section
set_option Elab.async false
set_option linter.all false
set_option maxRecDepth 100000
set_option autoImplicit false
set_option maxHeartbeats 4000000
/-! Fgc: the law's end by a promise of FnG. -/
namespace Fd
open PySem PySem.Spec PyProof.Rows L2 LamX
abbrev tabO : Obj := { cls := .none, data := .fields #[] }
abbrev lstO (vs : List Value) : Obj := { cls := .type "list", data := .seq vs.toArray }
/-- what stands in the heap where the law is called -/
structure At1 (K : PySem.W.Frag) (mg : Str → Option Value) (s : Shared) (a : Addr) (vs : List Value) (ns : List Int) (cs : List (Addr × Addr)) : Prop where
  kin : K.In s.heap
  nsp : s.heap.Ns mainGlobals mg
  bn : ∃ mb, s.heap.Ns builtinsNs mb ∧ ∀ x : Str, x ≠ "__name__" → mb x = bootBuiltins x
  lim : s.heap.NoLimit
  gens : s.gens = #[]
  tab : ∀ p ∈ cs, s.heap.get? p.2 = some tabO
  nok : ∀ p ∈ cs, K.lookup p.2 = none
  cod : ∀ p ∈ cs, PySem.W.CodeHd s.heap p.1 p.2
  bm : ∃ (m : Addr) (o : Obj), mg "__builtins__" = some (.ref m) ∧ m ≠ builtinsNs ∧ s.heap.get? m = some o ∧ o.cls = .type "module" ∧ o.dict = some builtinsNs ∧ o.data = .plain
  lst : s.heap.get? a = some (lstO vs)
  isI : IntsAre vs ns
  len : ns.length ≤ sizeLine
section
variable {P : Program} {w : World} {K : PySem.W.Frag} {mg : Str → Option Value} {k : Nat} {fa a : Addr} {cs : List (Addr × Addr)} {fd : FuncData} {x : Str} {sp : Sp} {s : Shared} {vs : List Value} {ns : List Int}
/-- the heap as it is tracked: the tables, maybe the script -/
structure Trk (P : Program) (w : World) (K : PySem.W.Frag) (s : Shared) (a : Addr) (ns : List Int) (cs : List (Addr × Addr)) (H : Hp) : Prop where
  t : ∀ p ∈ cs, H p.2 = some (.tbl #[])
  o : ∀ b, H b = none ∨ b ∈ cs.map (·.2) ∨ ∃ o xs, H b = some (.frz o (.lst xs))
  sq : SqL K H a (ns.map V.int)
  ok : HOk P w H s.heap
  of : ∀ b, H b ≠ none → b = a ∨ b ∈ cs.map (·.2)
  nk : H a ≠ none → K.lookup a = none
theorem At1.isT (h : At1 K mg s a vs ns cs) {b : Addr} (hb : b ∈ cs.map (·.2)) : s.heap.get? b = some tabO := by
  obtain ⟨p, hp, rfl⟩ := List.mem_map.mp hb
  exact h.tab p hp
theorem At1.aT (h : At1 K mg s a vs ns cs) : a ∉ cs.map (·.2) := fun z => by
  have e := h.lst.symm.trans (h.isT z)
  injection e with e
  have d := congrArg Obj.data e
  cases d
/-- there is such a heap -/
theorem At1.trk (h : At1 K mg s a vs ns cs) : ∃ H, Trk P w K s a ns cs H := by
  have rv := vals_ints h.isI
  have lv := h.isI.length
  by_cases hk : K.lookup a = none
  · refine ⟨fun b => if b = a then some (.frz (lstO vs) (.lst (ns.map V.int))) else if b ∈ cs.map (·.2) then some (.tbl #[]) else none, fun p hp => ?_, fun b => ?_, .inl (.inr ⟨lstO vs, by simp⟩), fun b u e => ?_, fun b e => ?_, fun _ => hk⟩
    · have m : p.2 ∈ cs.map (·.2) := List.mem_map.mpr ⟨p, hp, rfl⟩
      have n : p.2 ≠ a := fun z => h.aT (z ▸ m)
      simp only [n, m, if_true, if_false]
    · skip
      by_cases b1 : b = a
      · rw [if_pos b1]; exact .inr (.inr ⟨_, _, rfl⟩)
      · rw [if_neg b1]
        by_cases b2 : b ∈ cs.map (·.2)
        · exact .inr (.inl b2)
        · rw [if_neg b2]; exact .inl rfl
    · skip
      by_cases b1 : b = a
      · rw [if_pos b1] at e
        injection e with e
        rw [← e, b1]
        exact ⟨h.lst, by rw [List.length_map]; exact h.len, vs, _, rv, h.lst⟩
      · rw [if_neg b1] at e
        by_cases b2 : b ∈ cs.map (·.2)
        · rw [if_pos b2] at e
          injection e with e
          rw [← e]
          exact h.isT b2
        · rw [if_neg b2] at e; cases e
    · skip
      by_cases b1 : b = a
      · exact .inl b1
      · rw [if_neg b1] at e
        by_cases b2 : b ∈ cs.map (·.2)
        · exact .inr b2
        · rw [if_neg b2] at e; exact absurd rfl e
  · obtain ⟨o, ho⟩ := Option.ne_none_iff_exists'.mp hk
    have eo : o = lstO vs := Option.some.inj ((h.kin a o ho).symm.trans h.lst)
    subst eo
    refine ⟨fun b => if b ∈ cs.map (·.2) then some (.tbl #[]) else none, fun p hp => ?_, fun b => ?_, .inr ⟨_, vs.toArray, _, ho, rfl, rfl, rfl, by rw [List.size_toArray, lv]; exact h.len, by simpa using rv⟩, fun b u e => ?_, fun b e => ?_, fun z => absurd (by rw [if_neg h.aT]) z⟩
    · exact if_pos (List.mem_map.mpr ⟨p, hp, rfl⟩)
    · skip
      by_cases b2 : b ∈ cs.map (·.2)
      · exact .inr (.inl b2)
      · rw [if_neg b2]; exact .inl rfl
    · skip
      by_cases b2 : b ∈ cs.map (·.2)
      · rw [if_pos b2] at e
        injection e with e
        rw [← e]
        exact h.isT b2
      · rw [if_neg b2] at e; cases e
    · skip
      by_cases b2 : b ∈ cs.map (·.2)
      · exact .inr b2
      · rw [if_neg b2] at e; exact absurd rfl e
variable {H : Hp}
/-- what is no list and no empty table is not tracked -/
theorem Trk.not (t : Trk P w K s a ns cs H) (h : At1 K mg s a vs ns cs) {b : Addr} {o : Obj} (e : s.heap.get? b = some o) (h1 : ∀ xs n, o.data ≠ .seq xs n) (h2 : o.data ≠ .fields #[]) : H b = none := by
  refine Classical.byContradiction fun z => ?_
  rcases t.of b z with rfl | y
  · have q := Option.some.inj (e.symm.trans h.lst)
    subst q
    exact h1 _ _ rfl
  · have q := Option.some.inj (e.symm.trans (h.isT y))
    subst q
    exact h2 rfl
theorem Trk.nsp (t : Trk P w K s a ns cs H) (h : At1 K mg s a vs ns cs) {b : Addr} {m : Str → Option Value} (n : s.heap.Ns b m) : (hidT s.heap H).Ns b m := by
  obtain ⟨o, es, ep, e, d, r⟩ := n
  refine ⟨o, es, ep, hidT_get e (t.not h e (fun xs j z => ?_) fun z => ?_), d, r⟩
  · rw [d] at z; cases z
  · rw [d] at z; cases z
theorem Trk.kin (t : Trk P w K s a ns cs H) (h : At1 K mg s a vs ns cs) : K.In (hidT s.heap H) := by
  intro b o e
  refine hidT_get (h.kin b o e) (Classical.byContradiction fun z => ?_)
  rcases t.of b z with rfl | y
  · rw [t.nk z] at e; cases e
  · obtain ⟨p, hp, rfl⟩ := List.mem_map.mp y
    rw [h.nok p hp] at e; cases e
theorem Trk.tabB (t : Trk P w K s a ns cs H) (h : At1 K mg s a vs ns cs) : ∀ p ∈ cs, TabB (hidT s.heap H) mg p.1 p.2 := by
  intro p hp
  have tp := h.tab p hp
  refine ⟨?_, ?_, fun z => ?_⟩
  · obtain ⟨o, us, f1, f2, f3, f4, f5, f6, f7, e1, r1, r2, r3, r⟩ := h.cod p hp
    refine ⟨o, us, f1, f2, f3, f4, f5, f6, f7, hidT_get e1 (t.not h e1 (fun xs j z => ?_) fun z => ?_), r1, r2, r3, r⟩
    · rw [r2] at z; cases z
    · rw [r2] at z
      cases z
      simp at r3
  · obtain ⟨m, o, b1, b2, b3, b4, b5, b6⟩ := h.bm
    refine ⟨m, o, b1, b2, fun z => ?_, fun z => ?_, hidT_get b3 (t.not h b3 (fun xs j z => ?_) fun z => ?_), b4, b5, b6⟩
    · obtain ⟨o', es, ep, e, d, _⟩ := h.nsp
      rw [z, e] at b3
      cases b3
      rw [d] at b6; cases b6
    · rw [z, tp] at b3
      cases b3
      cases b6
    · rw [b6] at z; cases z
    · rw [b6] at z; cases z
  · obtain ⟨o', es, ep, e, d, _⟩ := h.nsp
    rw [z, tp] at e
    cases e
    cases d
/-- the law is called: it tells True -/
theorem law_callG (h : At1 K mg s a vs ns cs) (hr : Room k callerA) (F : ∀ base : Heap, K.In base → base.Ns mainGlobals mg → (∀ p ∈ cs, TabB base mg p.1 p.2) → FnG P w K mg base k fa fd [x] sp) (hbd : ∀ (s : Shared) (u : Value), BindsTo s fd ⟨[u], []⟩ [(x, u)])
    (hsp : ∀ H : Hp, (∀ p ∈ cs, H p.2 = some (.tbl #[])) → SqL K H a (ns.map V.int) → sp [.ref a] H (fun v _ => v = .bl true) fun _ _ _ => False) :
    codeAny (model P w) callerA (.call (.ref fa) ⟨[.ref a], []⟩) (fun r s' => r = .ok (.ret (.bool true)) ∧ OldK s.heap s'.heap ∧ s'.os = s.os ∧ AllBare s'.gens) s := by
  obtain ⟨H, t⟩ := h.trk (P := P) (w := w)
  obtain ⟨mb, hb1, hb2⟩ := h.bn
  have md : L2.Mod K mg (hidT s.heap H) := ⟨t.kin h, t.nsp h h.nsp, ⟨mb, t.nsp h hb1, hb2⟩, let ⟨mc, z1, z2⟩ := h.lim; ⟨mc, t.nsp h z1, z2⟩⟩
  have e0 : Env0 P w K mg (hidT s.heap H) callerA [] s H := ⟨rfl, md, fun b o z => of_hidT z, Nat.le_of_eq (hidT_size _ _), trivial, fun b z => (List.not_mem_nil (show b ∈ ([] : List Addr) from z)).elim, t.ok, AllBare.of_eq h.gens⟩
  refine codeAny_mono ((F _ (t.kin h) (t.nsp h h.nsp) (t.tabB h)).go callerA [] s H _ [.ref a] [.ref a] _ _ rfl hr e0 (hbd s (.ref a)) (.cons rfl .nil) (hsp H t.t t.sq)) fun r s' q => ?_
  match r, q with
  | .error e, q => exact q.elim
  | .ok .next, q => exact q.elim
  | .ok .brk, q => exact q.elim
  | .ok .cont, q => exact q.elim
  | .ok (.ret u), q =>
    obtain ⟨v, H', os, bare, un, hok', rl, rfl⟩ := q
    have eu : u = Value.bool true := rl
    subst eu
    have kept : ∀ b o, b ∉ cs.map (·.2) → s.heap.get? b = some o → s'.heap.get? b = some o := by
      intro b o nb e
      rcases t.o b with z | z | ⟨ob, xs, z⟩
      · exact un.keep b o e z (fun y => (List.not_mem_nil (show b ∈ ([] : List Addr) from y)).elim) (by simp)
      · exact absurd z nb
      · have e1 := (t.ok b _ z).1
        have e2 := (hok' b _ (un.frzs b ob _ z)).1
        rw [e] at e1
        rw [e1]
        exact e2
    have grew : ∀ p ∈ cs, ∃ more : Array Value, s'.heap.get? p.2 = some { cls := .none, data := .fields more } := fun p hp =>
      let ⟨more, z⟩ := un.tbls p.2 #[] (t.t p hp)
      ⟨_, hok' p.2 _ z⟩
    refine ⟨rfl, ⟨fun b o e => ?_, fun b o e => ?_⟩, os, bare⟩
    · by_cases hb : b ∈ cs.map (·.2)
      · obtain ⟨p, hp, rfl⟩ := List.mem_map.mp hb
        obtain ⟨more, hm⟩ := grew p hp
        have eo : o = tabO := Option.some.inj (e.symm.trans (h.tab p hp))
        subst eo
        exact .inr (.inl ⟨((h.cod p hp).tab (h.tab p hp)).isCodeTable, rfl, #[], more, rfl, by rw [Array.empty_append]; exact hm⟩)
      · exact .inl (kept b o hb e)
    · by_cases hb : b ∈ cs.map (·.2)
      · obtain ⟨p, hp, rfl⟩ := List.mem_map.mp hb
        obtain ⟨more, hm⟩ := grew p hp
        exact ⟨_, hm⟩
      · exact ⟨o, kept b o hb e⟩
end
/-- LawAtS, with FnG -/
def LawAtG (l : PySem.W.OpenLaw) (w : World) (K : PySem.W.Frag) (k n : Nat) (x : Str) (mg : Str → Option Value) (fa : Addr) (h : Heap) : Prop :=
  ∃ (fd : FuncData) (cs : List (Addr × Addr)) (sp : Sp), ((∀ p ∈ cs, h.get? p.2 = some tabO) ∧ (∀ p ∈ cs, K.lookup p.2 = none) ∧ ∀ p ∈ cs, PySem.W.CodeHd h p.1 p.2) ∧ (∀ (s : Shared) (u : Value), BindsTo s fd ⟨[u], []⟩ [(x, u)]) ∧
    (∀ (H : Hp) (a : Addr) (ns : List Int), ns.length ≤ n → (∀ z ∈ ns, Builtin.Int.intBits z ≤ 1048576) → (∀ p ∈ cs, H p.2 = some (.tbl #[])) → SqL K H a (ns.map V.int) → sp [.ref a] H (fun v _ => v = .bl true) fun _ _ _ => False) ∧
    ∀ base : Heap, K.In base → base.Ns mainGlobals mg → (∀ p ∈ cs, TabB base mg p.1 p.2) → FnG l.prog w K mg base k fa fd [x] sp
theorem walk_ofG {l : PySem.W.OpenLaw} {n k : Nat} {q : Program} {loose : List Str} {XP : (Str → Option Value) → Heap → Prop} {YP : World → Heap → Prop} {d : DefRec} {x : Str} (hn : l.most = some n) (hn2 : n ≤ sizeLine) (hdf : d.params.defaults = []) (hr : Room k callerA)
    (F : ∀ (w : World) (mg : Str → Option Value) (fa : Addr) (h : Heap), YP w h → h.Ns mainGlobals mg → mg d.name = some (.ref fa) → ∃ K : PySem.W.Frag, K.In h ∧ LawAtG l w K k n x mg fa h) : PySem.W.WalkO q loose XP YP l.row.toRowW d [] (fun f vs => PySem.call f vs) := by
  refine Att.attach_callB hn hdf fun w s0 s1 mg mb fa o pm cd doc a vs ns G Y ho hd hcd hmg hobj hints hlen hbits hg => ?_
  obtain ⟨K, KX, fd, cs, sp, ⟨hT, nT, C⟩, hb, hsp, hF⟩ := F w mg fa _ Y G.T.g hmg
  exact law_callG ⟨KX, G.T.g, ⟨mb, G.T.b, G.T.builtins⟩, G.T.nolimit, hg, hT, nT, C, G.T.bmain, hobj, hints, Nat.le_trans hlen hn2⟩ hr hF hb fun H z1 z2 => hsp H a ns hlen hbits z1 z2
/-- the law, by its body -/
def OkG (P : Program) (w : World) (K : PySem.W.Frag) (mg : Str → Option Value) (base : Heap) (T : Tb) (k : Nat) (x : Str) (ps : List Str) (ff : List PyData → M PyData) : Prop :=
  ∃ f fd, FnG P w K mg base k f fd ps (spF K T ff) ∧ mg x = some (.ref f) ∧ ∃ oc od osl, K.lookup f = some ⟨oc, od, .func fd, osl⟩
section
variable {P : Program} {w : World} {K : PySem.W.Frag} {mg : Str → Option Value} {base : Heap} {T : Tb}
theorem mkOkG {x : Str} {st : Stmt} {f : Addr} {N ps : List Str} {k : Nat} {t : DS} {ff : List PyData → M PyData} (F : ∃ fd, FunD K x x (defArgs st) (defBody st) (defScope st) [] [] f fd) (hm : mg x = some (.ref f)) (S : FnScope N ps (defScope st)) (len : ∀ ds Q E, ff ds Q E → ds.length = ps.length)
    (hb : ∀ (cdv : Value) (A : Around) (outer : List Env) (s : Shared) (H : Hp) (E : XK), A.guards = some [] → Room k (A.deeper (envOfC x (defScope st) s.heap.objs.size f cdv)) → FSs (cxOf CX0 P w K mg base N x (defScope st) f cdv A outer s H E).nox T E (defBody st) t)
    (ht : ∀ ds Q E, ff ds Q E → dFn t N ds Q E) : OkG P w K mg base T (k + 1) x ps ff := by
  obtain ⟨fd, F⟩ := F
  obtain ⟨oc, od, dV, kV, doc, pm, an, cdv, ct, osl, rfl, lk, hcd, _, _⟩ := F.ex
  refine ⟨f, _, fnG_of lk hcd S (fun vs H Q E ⟨ds, G, Qd, Ed, a, b, c, _⟩ => b.len.trans (len ds Qd Ed c)) fun A outer s H vs Q E hg hr ⟨ds, G, Qd, Ed, a, b, c, d, x⟩ => ⟨_, PSs.nox (hb cdv A outer s H E hg hr).pss, ?_⟩, hm, oc, od, osl, lk⟩
  exact ⟨H, G, startD N ds, G, _, a, er_start (T := T) b, ht ds Qd Ed c, ⟨fun r sg H' G' z _ _ q => d .none .non H' G' z .non q, fun _ _ _ _ _ _ _ q => q.elim, fun _ _ _ _ _ _ _ q => q.elim, fun dd v H' G' z p q => d dd v H' G' z p q, fun c H' G' z q => x c H' G' z q⟩⟩
theorem mkOkGC {x : Str} {st : Stmt} {N ps : List Str} {k : Nat} {t : DS} {ff : List PyData → M PyData} (F : ∃ fd, FunD K x x (defArgs st) (defBody st) (defScope st) [] [] (He.ga K x) fd) (hm : mg x = some (.ref (He.ga K x))) (C : CTb K mg base T x) (S : FnScope N ps (defScope st)) (len : ∀ ds Q E, ff ds Q E → ds.length = ps.length)
    (hb : ∀ (c Pt : Addr) (A : Around) (outer : List Env) (s : Shared) (H : Hp) (E : XK), TabB base mg c Pt → (Pt, x ++ ".<locals>." ++ "<lambda>") ∈ T → (∀ p ∈ T, p.1 = Pt → p.2 = x ++ ".<locals>." ++ "<lambda>") → A.guards = some [] → Room k (A.deeper (envOfC x (defScope st) s.heap.objs.size (He.ga K x) (.ref c))) →
      FSs (cxOf CX0 P w K mg base N x (defScope st) (He.ga K x) (.ref c) A outer s H E).nox T E (defBody st) t)
    (ht : ∀ ds Q E, ff ds Q E → dFn t N ds Q E) : OkG P w K mg base T (k + 1) x ps ff := by
  obtain ⟨fd, F⟩ := F
  obtain ⟨oc, od, dV, kV, doc, pm, an, cdv, ct, osl, rfl, lk, hcd, _, _⟩ := F.ex
  obtain ⟨c, rfl⟩ := He.codeIn_ref hcd
  have ec : He.codeOf K (x, none) = c := He.codeOf_eq lk rfl
  have C1 := C.tb
  have C2 := C.mem
  have C3 := C.uniq
  unfold He.cT at C1 C2 C3
  rw [ec] at C1 C2 C3
  refine ⟨_, _, fnG_of lk hcd S (fun vs H Q E ⟨ds, G, Qd, Ed, a, b, c, _⟩ => b.len.trans (len ds Qd Ed c)) fun A outer s H vs Q E hg hr ⟨ds, G, Qd, Ed, a, b, c, d, x⟩ => ⟨_, PSs.nox (hb _ _ A outer s H E C1 C2 C3 hg hr).pss, ?_⟩, hm, oc, od, osl, lk⟩
  exact ⟨H, G, startD N ds, G, _, a, er_start (T := T) b, ht ds Qd Ed c, ⟨fun r sg H' G' z _ _ q => d .none .non H' G' z .non q, fun _ _ _ _ _ _ _ q => q.elim, fun _ _ _ _ _ _ _ q => q.elim, fun dd v H' G' z p q => d dd v H' G' z p q, fun c H' G' z q => x c H' G' z q⟩⟩
end
end Fd
end
section
set_option Elab.async false
set_option linter.all false
set_option maxRecDepth 100000
set_option autoImplicit false
set_option maxHeartbeats 4000000
/-! Fgd: drawers that are made and used at once; x.append(M). -/
namespace Fd
open PySem PySem.Spec PyProof.Rows L2 LamX
section
variable {X : Cx} {T : Tb} {E : XK} {a b e : Expr} {es : List Expr} {pos : Pos}
theorem lfW_ins {K : PySem.W.Frag} {G H : Hp} {p q : Addr} {mk : PyData} (h : InsR K G (.ref p) q mk) (s : Same G H) : ∃ dx w, H p = some (.ins (DC K) dx [("maker", w), ("past", .ref q)]) ∧ Dp K G w mk := by
  obtain ⟨p', dx, w, e, g, d⟩ := h
  cases e
  exact ⟨dx, w, s _ _ g, d⟩
/-- Drawer(..).back(): nothing is to be taken back -/
@[simp] def dNewBack (ts : DA) : DE := fun r _ E => ts r (fun ds => (∃ mk st, ds = [mk, st]) ∧ E (xT "NoDeed")) E
theorem fe_newback {k : Nat} {j : Nat} {ts : DA} {apos : Pos} {pl : Sem Bool} (c : DrC X.K) (F : OkMe X.prog X.w X.K X.mg X.base k "back" ["self"] (spE X.K T fBack)) (px : PX X E) (hr : Room j X.A) (ha : FWn X T E e ts) (hk : Nat.ble k j = true := by rfl)
    (ht : eval (.Call (.Attribute e "back" apos) [] [] pos) X.env = (do
      let ov ← eval e X.env
      standAt apos.atName
      let (f, first) ← holding [ov] (getMethod ov "back" pl)
      callWith pos f first (backTo pos (starEach [] X.env)) (backToKw pos (keywordEach [] X.env))) := by rfl) : FE X T E (.Call (.Attribute e "back" apos) [] [] pos) (dNewBack ts) := by
  obtain ⟨fa, fd, F, hM, hb⟩ := F
  refine FE.mk' (pe_meth0 ha.pe c.cls hM F (hr.mono (Nat.le_of_ble_eq_true hk)) hb .nil px ht) fun sg H Q ⟨H0, G0, r, G, Qd, Ed, h, er, w, k, x⟩ => ?_
  refine ⟨H0, G0, r, G, _, Ed, h, er, w, fun ds p q ms H1 G1 z hQ hI nq hq gq => ?_, fun ds hQ => hQ.1, x⟩
  obtain ⟨_, hE⟩ := hQ
  obtain ⟨mk, st, rfl, hI, dm⟩ := hI
  obtain ⟨dx, wv, hp, dw⟩ := lfW_ins hI z.sub
  have D : DrD X.K T p q wv ms mk (newP st) H1 G1 := ⟨z.refl, ⟨⟨dx, hp⟩, hq⟩, dw, dm, gq⟩
  refine ⟨p, dx, _, rfl, hp, look_none ⟨by decide, by decide⟩, p, q, wv, ms, mk, newP st, [], [], G1, fun _ _ => False, fun cc => cc = xT "NoDeed", rfl, D, .nil, ⟨rfl, by simp, ?_⟩, fun _ _ _ _ _ _ _ _ _ z => z.elim, fun cc H2 G2 z2 hc => ⟨rfl, cc, rfl, ?_⟩⟩
  · rw [if_pos (by rfl)]
  · subst hc
    exact x _ H2 G2 (z.trans z2) hE
/-- x(Drawer(..)), that only tells -/
@[simp] def dTellNew (f : PyData → List PyData → M PyData) (ts : DA) : DE := fun r Q E => ts r (fun ds => ∃ mk st, ds = [mk, st] ∧ f mk (newP st) Q (fun _ => False)) E
theorem fe_tellNew {j k : Nat} {x : Str} {ps : List Str} {f : PyData → List PyData → M PyData} {ts : DA} {p : Pos} (F : OkD X.prog X.w X.K X.mg X.base k x ps (spSF X.K T f)) (hr : Room j X.A) (hg : Gl X x) (ha : FWn X T E e ts) (hk : Nat.ble k j = true := by rfl) (hdb : (x == ("__debug__" : Str)) = false := by decide)
    (he : starEach [e] X.env = (false, eval e X.env) :: starEach [] X.env := by rfl) (hpl : (backTo pos (starEach [] X.env)).any (·.1) = false := by rfl) : FE X T E (.Call (.Name x p) [e] [] pos) (dTellNew f ts) := by
  obtain ⟨fa, fd, F, hm, hkp, hb⟩ := F
  refine FE.mk' (pe_call (E := E) F (hr.mono (Nat.le_of_ble_eq_true hk)) hg hm hkp hb .nil passAny (pa_cons ha.pe pa_nil he) hdb he hpl) fun sg H Q ⟨H0, G0, r, G, Qd, Ed, h, er, w, k, x⟩ => ?_
  refine ⟨H0, G0, r, G, _, Ed, h, er, w, fun ds p q ms H1 G1 z hQ hI nq hq gq => ?_, fun ds ⟨mk, st, e, _⟩ => ⟨mk, st, e⟩, x⟩
  obtain ⟨mk, st, rfl, hf⟩ := hQ
  obtain ⟨mk', st', e, hI, dm⟩ := hI
  cases e
  obtain ⟨dx, wv, hp, dw⟩ := lfW_ins hI z.sub
  have D : DrD X.K T p q wv ms mk (newP st) H1 G1 := ⟨z.refl, ⟨⟨dx, hp⟩, hq⟩, dw, dm, gq⟩
  exact ⟨p, q, wv, ms, mk, newP st, G1, Qd, rfl, D, hI, hf, fun d v H' G' z2 pd hq => k d v H' G' (z.trans z2) pd hq⟩
end
end Fd
end
section
set_option Elab.async false
set_option linter.all false
set_option maxRecDepth 100000
set_option autoImplicit false
set_option maxHeartbeats 4000000
/-! Fge: lists of drawers, lists of lists of one's own. -/
namespace Fd
open PySem PySem.Spec PyProof.Rows L2 LamX
section
variable {X : Cx} {T : Tb} {E : XK} {a b e ek : Expr} {es : List Expr} {pos : Pos} {ta tk : DE} {tx : DX}
/-- xs.append(M) -/
@[simp] def dAppC (i : Nat) (t : DX) : DS := fun D r => (∃ ds, r[i]? = some (.own ds)) ∧ t r (fun d r' => ∃ ds, r'[i]? = some (.own ds) ∧ ds.length < sizeLine ∧ D.nx (r'.set i (.own (ds ++ [d])))) D.ex
theorem fs_appendC (i : Nat) {x : Str} {p1 apos cpos : Pos} (he : FC X T E e tx) (hN : X.N[i]? = some x := by rfl) (hv : Vis X.env.scope x := by first | exact Or.inl rfl | exact Or.inr (Or.inl rfl) | exact Or.inr (Or.inr rfl)) (hd : (x == ("__debug__" : Str)) = false := by decide)
    (hcd : (x == ("__classdict__" : Str)) = false := by decide) (hbase : attributeBase (.Name x p1) "append" X.env (eval (.Name x p1) X.env) = eval (.Name x p1) X.env := by rfl)
    (hfew : ((backTo cpos (starEach [e] X.env)).all (fun x => !x.1) && (backToKw cpos (keywordEach [] X.env)).all (fun x => x.1.isSome) && decide ([e].length + ([] : List Keyword).length + (if ([] : List Keyword).isEmpty then 0 else 1) < 30)) = true := by rfl)
    (hline : (apos.endLine == cpos.line) = true := by rfl) (hs : starEach [e] X.env = (false, eval e X.env) :: starEach [] X.env := by rfl) (hplain : (backTo cpos (starEach [] X.env)).any (·.1) = false := by rfl)
    (hsw : swapsWith (.Call (.Attribute (.Name x p1) "append" apos) [e] [] cpos) none pos.line X.env = pure false := by rfl) :
    FS X T E (.Expr (.Call (.Attribute (.Name x p1) "append" apos) [e] [] cpos) pos) (dAppC i tx) := by
  refine FS.mk' (ps_expr (pe_bm PySem.F.plainAttrs_list PySem.F.slot_list_append PySem.F.type_list_append mt_append (pe_var hN hv hd hcd) (pa_cons he.pe pa_nil hs) hbase hfew hline hs hplain) hsw) fun D sg H ⟨H0, G0, r, G, Dd, h, er, ⟨⟨ds, hr⟩, w⟩, k⟩ => ?_
  obtain ⟨p, vs, a, b, c, n, d⟩ := er.own i ds hr
  refine ⟨.ref p, a, .inl ⟨rfl, vs, SqL.of b⟩, H0, G0, r, G, _, _, h, er, w, fun dd v r' H1 G1 h1 sm er1 p1 ⟨ds', hr', hz, q⟩ => ?_, k.xc h⟩
  obtain ⟨p', vs', a', b', c', n', d'⟩ := er1.own i ds' hr'
  rw [a] at a'
  cases a'
  have lv := d'.len
  exact ⟨p, vs', v, rfl, rfl, b', by omega, k.nx _ _ _ G1 (h1.poke n b' c') sm (er1.pokeO hr' a c' n (d'.app (.cons p1 .nil))) q⟩
/-- xss[k].append(M) -/
@[simp] def dAppT (ti : Nat) (hs : List Nat) (tk : DE) (t : DX) : DS := fun D r => ∃ qs, r[ti]? = some (.fct (.refs qs)) ∧ tk r (fun kd => ∃ (n h : Nat) (q : Addr) (ds : List PyData), kd = .int (n : Int) ∧ hs[n]? = some h ∧ qs[n]? = some q ∧ r[h]? = some (.obj (.at q ds)) ∧
  t r (fun d r' => ∃ ds', r'[h]? = some (.obj (.at q ds')) ∧ ds'.length < sizeLine ∧ D.nx (r'.set h (.obj (.at q (ds' ++ [d]))))) (fun _ => False)) D.ex
theorem fs_appendT (ti : Nat) (hss : List Nat) {x : Str} {p1 p2 apos cpos : Pos} (hk : FE X T E ek tk) (he : FC X T E e tx) (hpi : PlainIx ek) (hN : X.N[ti]? = some x := by rfl) (hv : Vis X.env.scope x := by first | exact Or.inl rfl | exact Or.inr (Or.inl rfl) | exact Or.inr (Or.inr rfl)) (hd : (x == ("__debug__" : Str)) = false := by decide)
    (hcd : (x == ("__classdict__" : Str)) = false := by decide) (hbase : attributeBase (.Subscript (.Name x p1) ek p2) "append" X.env (eval (.Subscript (.Name x p1) ek p2) X.env) = eval (.Subscript (.Name x p1) ek p2) X.env := by rfl)
    (hfew : ((backTo cpos (starEach [e] X.env)).all (fun x => !x.1) && (backToKw cpos (keywordEach [] X.env)).all (fun x => x.1.isSome) && decide ([e].length + ([] : List Keyword).length + (if ([] : List Keyword).isEmpty then 0 else 1) < 30)) = true := by rfl)
    (hline : (apos.endLine == cpos.line) = true := by rfl) (hs : starEach [e] X.env = (false, eval e X.env) :: starEach [] X.env := by rfl) (hplain : (backTo cpos (starEach [] X.env)).any (·.1) = false := by rfl)
    (hsw : swapsWith (.Call (.Attribute (.Subscript (.Name x p1) ek p2) "append" apos) [e] [] cpos) none pos.line X.env = pure false := by rfl) :
    FS X T E (.Expr (.Call (.Attribute (.Subscript (.Name x p1) ek p2) "append" apos) [e] [] cpos) pos) (dAppT ti hss tk tx) := by
  refine FS.mk' (ps_expr (pe_bm PySem.F.plainAttrs_list PySem.F.slot_list_append PySem.F.type_list_append mt_append (pe_ix ix_seq (pe_var hN hv hd hcd) hk.pe hpi) (pa_cons he.pe pa_nil hs) hbase hfew hline hs hplain) hsw) fun D sg H ⟨H0, G0, r, G, Dd, h, er, ⟨qs, ht, w⟩, k⟩ => ?_
  obtain ⟨_, a1, at_, rfl, sq⟩ := er.fct ti _ ht
  refine ⟨.ref at_, a1, H0, G0, r, G, _, _, h, er, w, fun kd v H1 G1 h1 pk hK => ?_, k.xc h⟩
  obtain ⟨n, hh, q, ds, rfl, hn, hq, hg, w2⟩ := hK
  cases pk
  have er1 := er.grow h1
  obtain ⟨p', u', b1, b2, b3, b4, ms, eu, eq, dp⟩ := er1.obj hh _ hg
  subst eu eq
  have hat : atI (qs.map V.ref) (n : Int) = some (.ref q) := Fd.atI_nat (by rw [List.getElem?_map, hq]; rfl)
  refine .inl ⟨at_, _, _, _, rfl, rfl, (h1.g0.trans h1.sub).seq sq, hat, .inl ⟨rfl, ms, SqL.of b2⟩, ?_⟩
  refine ⟨H0, G0, r, G1, _, _, h.trans h1, er1, w2, fun dd v r' H2 G2 h2 sm er2 p2 ⟨ds', hr', hz, qn⟩ => ?_, fun _ _ _ _ z => z.elim⟩
  obtain ⟨p'', u'', c1, c2, c3, c4, ms', eu', eq', dp'⟩ := er2.obj hh _ hr'
  subst eu' eq'
  have lv := dp'.len
  exact ⟨q, ms', v, rfl, rfl, c2, by omega, k.nx _ _ _ G2 (h2.poke c4 c2 c3) (h1.g0.trans sm) (er2.pokeX (o' := .at q (ds' ++ [dd])) hr' c1 c3 c4 ⟨_, rfl, rfl, dp'.app (.cons p2 .nil)⟩) qn⟩
/-- x(drawers[k], e, ..), that changes it -/
@[simp] def dMeI (di : Nat) (gs : List Nat) (f : FDr) (tk : DE) (ts : DA) : DX := fun r R E => ∃ xs, r[di]? = some (.fct (.inss xs)) ∧ tk r (fun kd => ∃ (n g : Nat) (q : Addr) (mk : PyData) (past : List PyData), kd = .int (n : Int) ∧ gs[n]? = some g ∧ xs[n]? = some (q, mk) ∧ r[g]? = some (.obj (.at q past)) ∧
  ts r (fun ds => f mk past ds (fun d past' => R d (r.set g (.obj (.at q past')))) (fun _ => False)) (fun _ => False)) E
theorem paired_at {A B : Type} {F : A → B → Prop} : ∀ {l : List A} {m : List B} {i : Nat} {x : A}, Paired F l m → l[i]? = some x → ∃ y, m[i]? = some y ∧ F x y
  | _, _, _, _, .nil, h => by simp at h
  | _, _, 0, _, .cons r _, h => by simp at h; subst h; exact ⟨_, rfl, r⟩
  | _, _, i + 1, _, .cons _ t, h => by
    obtain ⟨y, a, b⟩ := paired_at (i := i) t (by simpa using h)
    exact ⟨y, by simpa using a, b⟩
theorem fc_defI {di j k : Nat} {gs : List Nat} {x y : Str} {ps : List Str} {f : FDr} {ts : DA} {p p1 p2 : Pos} (F : OkD X.prog X.w X.K X.mg X.base k x ps (spEF X.K T f)) (hr : Room j X.A) (hg : Gl X x) (hK : FE X T E ek tk) (ha : FA X T E es ts) (hpi : PlainIx ek) (hk : Nat.ble k j = true := by rfl)
    (hN : X.N[di]? = some y := by rfl) (hv : Vis X.env.scope y := by first | exact Or.inl rfl | exact Or.inr (Or.inl rfl) | exact Or.inr (Or.inr rfl)) (hd : (y == ("__debug__" : Str)) = false := by decide) (hcd : (y == ("__classdict__" : Str)) = false := by decide) (hdb : (x == ("__debug__" : Str)) = false := by decide)
    (he : starEach (.Subscript (.Name y p1) ek p2 :: es) X.env = (false, eval (.Subscript (.Name y p1) ek p2) X.env) :: starEach es X.env := by rfl) (hpl : (backTo pos (starEach es X.env)).any (·.1) = false := by rfl) : FC X T E (.Call (.Name x p) (.Subscript (.Name y p1) ek p2 :: es) [] pos) (dMeI di gs f tk ts) := by
  obtain ⟨fa, fd, F, hm, hkp, hb⟩ := F
  refine FC.mk' (pe_call (E := E) F (hr.mono (Nat.le_of_ble_eq_true hk)) hg hm hkp hb .nil passAny (pa_cons (pe_ix ix_seq (pe_var hN hv hd hcd) hK.pe hpi) ha.pa he) hdb he hpl) fun sg H Q ⟨H0, G0, r, G, Rd, Ed, h, er, ⟨xs, hx, w⟩, k, x⟩ => ?_
  obtain ⟨_, a1, al, vs, rfl, sq, pr⟩ := er.fct di _ hx
  refine ⟨.ref al, a1, H0, G0, r, G, _, Ed, h, er, w, fun kd v H1 G1 z1 pk hK => ?_, x⟩
  obtain ⟨n, g, q, mk, past, rfl, hn, hq, hgp, w2⟩ := hK
  cases pk
  have er1 := er.grow z1
  obtain ⟨u, hu, hI⟩ := paired_at pr hq
  have hI1 := hI.up z1.g0
  obtain ⟨p, dx, wv, rfl, ap, dm⟩ := hI1
  refine .inl ⟨al, _, _, _, rfl, rfl, (z1.g0.trans z1.sub).seq sq, Fd.atI_nat hu, ?_⟩
  have a2 := z1.sub p _ ap
  obtain ⟨p', u', b1, b2, b3, b4, ms, eu, eq, dp⟩ := er1.obj g _ hgp
  subst eu eq
  have D : DrD X.K T p q wv ms mk past H1 G1 := ⟨z1.refl, ⟨⟨dx, a2⟩, b2⟩, dm, dp, b3⟩
  refine ⟨H0, G0, r, G1, _, _, h.trans z1, er1, w2, fun ds vs H2 G2 z2 pv hf => ?_, fun _ _ _ _ z => z.elim⟩
  have D1 := D.grow z2
  refine ⟨p, q, wv, ms, mk, past, vs, ds, G2, _, by rw [List.append_nil], D1, ⟨p, dx, wv, rfl, z2.g0 _ _ ap, dm.up z2.g0⟩, pv, hf, fun d v ms' past' H' G' z3 pd pm hR => ?_⟩
  have D2 := D1.grow z3
  exact k d v _ _ G' ((((h.trans z1).trans z2).trans z3).poke b4 D2.drw.2 D2.gq) ((z1.g0.trans z2.g0).trans z3.g0) ((er1.grow (z2.trans z3)).pokeX (o' := .at q past') hgp b1 D2.gq b4 ⟨ms', rfl, rfl, pm⟩) pd hR
/-- x(drawers[k]), that only tells -/
@[simp] def dTellI (di : Nat) (gs : List Nat) (f : PyData → List PyData → M PyData) (tk : DE) : DE := fun r Q E => ∃ xs, r[di]? = some (.fct (.inss xs)) ∧ tk r (fun kd => ∃ (n g : Nat) (q : Addr) (mk : PyData) (past : List PyData), kd = .int (n : Int) ∧ gs[n]? = some g ∧ xs[n]? = some (q, mk) ∧ r[g]? = some (.obj (.at q past)) ∧ f mk past Q (fun _ => False)) E
theorem fe_tellI {di j k : Nat} {gs : List Nat} {x y : Str} {ps : List Str} {f : PyData → List PyData → M PyData} {p p1 p2 : Pos} (F : OkD X.prog X.w X.K X.mg X.base k x ps (spSF X.K T f)) (hr : Room j X.A) (hg : Gl X x) (hK : FE X T E ek tk) (hpi : PlainIx ek) (hk : Nat.ble k j = true := by rfl)
    (hN : X.N[di]? = some y := by rfl) (hv : Vis X.env.scope y := by first | exact Or.inl rfl | exact Or.inr (Or.inl rfl) | exact Or.inr (Or.inr rfl)) (hd : (y == ("__debug__" : Str)) = false := by decide) (hcd : (y == ("__classdict__" : Str)) = false := by decide) (hdb : (x == ("__debug__" : Str)) = false := by decide)
    (he : starEach [.Subscript (.Name y p1) ek p2] X.env = (false, eval (.Subscript (.Name y p1) ek p2) X.env) :: starEach [] X.env := by rfl) (hpl : (backTo pos (starEach [] X.env)).any (·.1) = false := by rfl) : FE X T E (.Call (.Name x p) [.Subscript (.Name y p1) ek p2] [] pos) (dTellI di gs f tk) := by
  obtain ⟨fa, fd, F, hm, hkp, hb⟩ := F
  refine FE.mk' (pe_call (E := E) F (hr.mono (Nat.le_of_ble_eq_true hk)) hg hm hkp hb .nil passAny (pa_cons (pe_ix ix_seq (pe_var hN hv hd hcd) hK.pe hpi) pa_nil he) hdb he hpl) fun sg H Q ⟨H0, G0, r, G, Qd, Ed, h, er, ⟨xs, hx, w⟩, k, x⟩ => ?_
  obtain ⟨_, a1, al, vs, rfl, sq, pr⟩ := er.fct di _ hx
  refine ⟨.ref al, a1, H0, G0, r, G, _, Ed, h, er, w, fun kd v H1 G1 z1 pk hK => ?_, x⟩
  obtain ⟨n, g, q, mk, past, rfl, hn, hq, hgp, hf⟩ := hK
  cases pk
  have er1 := er.grow z1
  obtain ⟨u, hu, hI⟩ := paired_at pr hq
  have hI1 := hI.up z1.g0
  obtain ⟨p, dx, wv, rfl, ap, dm⟩ := hI1
  refine .inl ⟨al, _, _, _, rfl, rfl, (z1.g0.trans z1.sub).seq sq, Fd.atI_nat hu, ?_⟩
  have a2 := z1.sub p _ ap
  obtain ⟨p', u', b1, b2, b3, b4, ms, eu, eq, dp⟩ := er1.obj g _ hgp
  subst eu eq
  have D : DrD X.K T p q wv ms mk past H1 G1 := ⟨z1.refl, ⟨⟨dx, a2⟩, b2⟩, dm, dp, b3⟩
  exact ⟨p, q, wv, ms, mk, past, G1, Qd, rfl, D, ⟨p, dx, wv, rfl, ap, dm⟩, hf, fun d v H' G' z2 pd hq => k d v H' G' (z1.trans z2) pd hq⟩
/-! ### xs = [[..], [..], [..]] -/
@[simp] def dSet3 (i g1 g2 g3 : Nat) (ta tb tc : DA) : DS := fun D r => ta r (fun d1 => tb r (fun d2 => tc r (fun d3 => ∀ q1 q2 q3, D.nx ((((r.set g1 (.obj (.at q1 d1))).set g2 (.obj (.at q2 d2))).set g3 (.obj (.at q3 d3))).set i (.fct (.refs [q1, q2, q3])))) (fun _ => False)) (fun _ => False)) (fun _ => False)
theorem fs_set3 {i g1 g2 g3 : Nat} {x y1 y2 y3 : Str} {c : Expr} {ta tb tc : DA} {pos' lp : Pos} (ha : FN X T E a ta) (hb : FN X T E b tb) (hc : FN X T E c tc) (hN : X.N.Nodup) (hi : X.N[i]? = some x) (hx : Loc X.env.scope x) (hg1 : X.N[g1]? = some y1) (hv1 : ¬ Vis X.env.scope y1) (hg2 : X.N[g2]? = some y2) (hv2 : ¬ Vis X.env.scope y2) (hg3 : X.N[g3]? = some y3) (hv3 : ¬ Vis X.env.scope y3)
    (hne : i ≠ g1 ∧ i ≠ g2 ∧ i ≠ g3) (hs1 : starEach [a, b, c] X.env = (false, eval a X.env) :: starEach [b, c] X.env := by rfl) (hs2 : starEach [b, c] X.env = (false, eval b X.env) :: starEach [c] X.env := by rfl) (hs3 : starEach [c] X.env = (false, eval c X.env) :: starEach [] X.env := by rfl)
    (hs : swapsWith (.List [a, b, c] lp) (some (.Name x pos')) pos.line X.env = pure false := by rfl) (hf : X.fn x = true ∨ X.env.scope.names.lookup x = some .local := by first | exact .inl rfl | exact .inr rfl | assumption) :
    FS X T E (.Assign [.Name x pos'] (.List [a, b, c] lp) pos) (dSet3 i g1 g2 g3 ta tb tc) := by
  refine FS.mk' (ps_ghost (ps_ghost (ps_ghost (ps_set hN hi hx (pe_lst (pa_cons ha.pe (pa_cons hb.pe (pa_cons hc.pe pa_nil hs3) hs2) hs1)) hs hf) hg1 hv1) hg2 hv2) hg3 hv3) fun D sg H ⟨H0, G0, r, G, Dd, h, er, w, k⟩ => ?_
  refine ⟨H0, G0, r, G, _, _, h, er, w, fun d1 q1 v1 H1 G1 z1 n1 hp1 gp1 a1 w1 => ?_, fun _ _ _ _ z => z.elim⟩
  refine ⟨H0, G0, r, G1, _, _, h.trans z1, er.grow z1, w1, fun d2 q2 v2 H2 G2 z2 n2 hp2 gp2 a2 w2 => ?_, fun _ _ _ _ z => z.elim⟩
  refine ⟨H0, G0, r, G2, _, _, (h.trans z1).trans z2, (er.grow z1).grow z2, w2, fun d3 q3 v3 H3 G3 z3 n3 hp3 gp3 a3 w3 => ?_, fun _ _ _ _ z => z.elim⟩
  refine ⟨by rw [sizeLine_eq]; simp, fun l hl => ⟨some (.ref q1), some (.ref q2), some (.ref q3), ?_⟩⟩
  have z4 := z3.laid hl (o := .lst [.ref q1, .ref q2, .ref q3]) (fun ps q => by cases q)
  have e1 := er.setNew z1 h g1 (o := .at q1 d1) n1 hp1 gp1 ⟨v1, rfl, rfl, a1⟩
  have e2 := e1.setNew z2 (h.trans z1) g2 (o := .at q2 d2) n2 hp2 gp2 ⟨v2, rfl, rfl, a2⟩
  have e3 := e2.setNew z3 ((h.trans z1).trans z2) g3 (o := .at q3 d3) n3 hp3 gp3 ⟨v3, rfl, rfl, a3⟩
  have e4 := (e3.grow z4).setF i (v := .ref l) (f := .refs [q1, q2, q3]) ⟨l, rfl, SqL.of upd_same⟩
  show D.nx ((((sg.set i (some (.ref l))).set g1 (some (.ref q1))).set g2 (some (.ref q2))).set g3 (some (.ref q3))) _
  obtain ⟨m1, m2, m3⟩ := hne
  rw [List.set_comm _ _ m1, List.set_comm _ _ m2, List.set_comm _ _ m3]
  exact k.nx _ _ _ _ ((((h.trans z1).trans z2).trans z3).trans z4) (((z1.g0.trans z2.g0).trans z3.g0).trans z4.g0) e4 (w3 q1 q2 q3)
end
end Fd
end
section
set_option Elab.async false
set_option linter.all false
set_option maxRecDepth 100000
set_option autoImplicit false
set_option maxHeartbeats 4000000
/-! Fgf: a list of lists is frozen; drawers made by a comprehension. -/
namespace Fd
open PySem PySem.Spec PyProof.Rows L2 LamX
section
variable {X : Cx} {T : Tb} {E : XK} {K : PySem.W.Frag} {H0 G0 H G : Hp} {r : Ev} {sg : L2.St} {st : Stmt} {t : DS}
theorem set_id {A : Type} {l : List A} {i : Nat} {a : A} (h : l[i]? = some a) : l.set i a = l := by
  apply List.ext_getElem?
  intro j
  by_cases e : i = j
  · subst e
    rw [List.getElem?_set_self (List.getElem?_eq_some_iff.mp h).1, h]
  · rw [List.getElem?_set_ne e]
/-- the list of a ghost slot is frozen and forgotten -/
theorem ER.frzAt {h : Nat} {q : Addr} {ds : List PyData} (hr : HR T H0 G0 H G) (er : ER K H0 r sg H G) (e : r[h]? = some (.obj (.at q ds))) : ∃ G', HR T H0 G0 H G' ∧ Same G G' ∧ ER K H0 (r.set h .no) sg H G' ∧ Dp K G' (.ref q) (.list ds) := by
  obtain ⟨p', u', b1, b2, b3, b4, ms, eu, eq, dp⟩ := er.obj h _ e
  subst eu eq
  obtain ⟨z, sm⟩ := hr.freeze b2 b4
  have e1 := er.forget h
  refine ⟨_, z, sm, ?_, .lst (SqL.of upd_same) (dp.up sm)⟩
  refine e1.freezeOut (fun j es a b => ?_) sm
  rcases getSet a with ⟨_, y⟩ | ⟨nj, y⟩
  · cases y
  · exact nj (er.inj j h es _ q y e b b1)
@[simp] def dFrz3 (ti h1 h2 h3 : Nat) (t : DS) : DS := fun D r => ∃ q1 q2 q3 d1 d2 d3, r[ti]? = some (.fct (.refs [q1, q2, q3])) ∧ r[h1]? = some (.obj (.at q1 d1)) ∧ r[h2]? = some (.obj (.at q2 d2)) ∧ r[h3]? = some (.obj (.at q3 d3)) ∧
  t D ((((r.set h1 .no).set h2 .no).set h3 .no).set ti (.dat (.list [.list d1, .list d2, .list d3])))
theorem frz3_of {ti h1 h2 h3 : Nat} (n12 : h1 ≠ h2) (n13 : h1 ≠ h3) (n23 : h2 ≠ h3) : ∀ D sg H, lfS X.K T E (dFrz3 ti h1 h2 h3 t) D sg H → lfS X.K T E t D sg H := by
  intro D sg H ⟨H0, G0, r, G, Dd, h, er, ⟨q1, q2, q3, d1, d2, d3, ht, e1, e2, e3, w⟩, k⟩
  obtain ⟨v, a1, al, rfl, sq⟩ := er.fct ti _ ht
  obtain ⟨G1, z1, s1, er1, p1⟩ := er.frzAt h e1
  obtain ⟨G2, z2, s2, er2, p2⟩ := er1.frzAt z1 (h := h2) (by rw [List.getElem?_set_ne n12]; exact e2)
  obtain ⟨G3, z3, s3, er3, p3⟩ := er2.frzAt z2 (h := h3) (by rw [List.getElem?_set_ne n23, List.getElem?_set_ne n13]; exact e3)
  have s13 := (s1.trans s2).trans s3
  have d : Dp X.K G3 (.ref al) (.list [.list d1, .list d2, .list d3]) := .lst (s13.seq sq) (.cons (p1.up (s2.trans s3)) (.cons (p2.up s3) (.cons p3 .nil)))
  have er4 := er3.set ti d
  rw [set_id a1] at er4
  exact ⟨H0, G0, _, G3, Dd, z3, er4, w, k.up s13⟩
theorem fs_frz3 {ti h1 h2 h3 : Nat} (n12 : h1 ≠ h2) (n13 : h1 ≠ h3) (n23 : h2 ≠ h3) (h : FS X T E st t) : FS X T E st (dFrz3 ti h1 h2 h3 t) := FS.mk' h.ps (frz3_of n12 n13 n23)
end
/-! ### xs = [Drawer(..) for ..] -/
def dLcDGo (g : DG) (ts : DA) (r : Ev) (Q : List (PyData × PyData) → Prop) : List PyData → List (PyData × PyData) → Prop
  | [], acc => Q acc
  | d :: ds, acc => g d r fun r2 => ts r2 (fun xs => ∃ mk st, xs = [mk, st] ∧ dLcDGo g ts r Q ds (acc ++ [(mk, st)])) (fun _ => False)
/-- what was made: the instance, its list's address, maker, stand, the list -/
structure Md where
  p : Addr
  q : Addr
  mkr : PyData
  st : PyData
  ms : List V
structure MdOk (K : PySem.W.Frag) (H1 H G : Hp) (D : Addr) (x : Md) : Prop where
  ins : InsR K G (.ref x.p) x.q x.mkr
  lst : H x.q = some (.lst x.ms)
  gq : G x.q = none
  new : NT H1 x.q
  dp : DpAll K G x.ms (newP x.st)
  ne : x.q ≠ D
theorem MdOk.grow {K : PySem.W.Frag} {T : Tb} {H1 H G H' G' : Hp} {D : Addr} {x : Md} (m : MdOk K H1 H G D x) (h : HR T H G H' G') : MdOk K H1 H' G' D x :=
  ⟨m.ins.up h.g0, h.ext _ _ m.lst (fun ps z => by cases z), h.noNew m.lst m.gq, m.new, m.dp.up h.g0, m.ne⟩
@[simp] def dLcD3 (i g1 g2 g3 : Nat) (ti : DA) (g : DG) (ts : DA) (vs : List Nat) : DS := fun D r => ti r (fun ds => ds.length ≤ sizeLine ∧ dLcDGo g ts (wipeD r vs) (fun acc => ∃ m1 m2 m3 s1 s2 s3, acc = [(m1, s1), (m2, s2), (m3, s3)] ∧
  ∀ q1 q2 q3, D.nx ((((r.set g1 (.obj (.at q1 (newP s1)))).set g2 (.obj (.at q2 (newP s2)))).set g3 (.obj (.at q3 (newP s3)))).set i (.fct (.inss [(q1, m1), (q2, m2), (q3, m3)])))) ds []) D.ex
section
variable {X : Cx} {T : Tb} {E : XK} {elt tg iter : Expr} {scope : Scope} {own : List (Str × Nat)} {ti : DA} {g : DG} {ts : DA} {is : List Nat} {pos : Pos}
theorem fs_lcD3 {i g1 g2 g3 : Nat} {y y1 y2 y3 : Str} {py spos : Pos} (hc : X.calm = true) (hN : X.N.Nodup) (hy : X.N[i]? = some y) (hyl : X.env.scope.names.lookup y = some .local)
    (hsw : swapsWith (.ListComp elt [⟨tg, iter, [], 0⟩] scope pos) (some (.Name y py)) spos.line X.env = pure true) (hi : FI X T E false tg iter ti) (ok : BlkOk X.N X.env.scope scope own)
    (hg : ∀ (s : Shared) (H : Hp) (C : Addr) (cl : List (Str × Addr)) (fp : List Addr), FG (X.blk s H scope (compEnvC scope cl C X.env) fp) T is tg g)
    (he : ∀ (s : Shared) (H : Hp) (C : Addr) (cl : List (Str × Addr)) (fp : List Addr), FWn (X.blk s H scope (compEnvC scope cl C X.env) fp) T noX elt ts)
    (hg1 : X.N[g1]? = some y1) (hv1 : ¬ Vis X.env.scope y1) (hg2 : X.N[g2]? = some y2) (hv2 : ¬ Vis X.env.scope y2) (hg3 : X.N[g3]? = some y3) (hv3 : ¬ Vis X.env.scope y3) (hne : i ≠ g1 ∧ i ≠ g2 ∧ i ≠ g3)
    (hv : ∀ i ∈ is, i ∈ own.map (·.2) := by decide) (hs : ∀ x, foldedSetIterable iter X.env x = pure x := by intro _; rfl) :
    FS X T E (.Assign [.Name y py] (.ListComp elt [⟨tg, iter, [], 0⟩] scope pos) spos) (dLcD3 i g1 g2 g3 ti g ts (own.map (·.2))) := by
  generalize hvs : own.map (·.2) = vs at *
  refine FS.mk' (ps_ghost (ps_ghost (ps_ghost (ps_setLc (tt := fun _ H Q => Q true H) (te := lfW X.K T noX ts) (g := lfG X.K T is g) hc hN hy hyl hsw hi.pi ok (fun s H C cl fp => (hg s H C cl fp).pg) (fun s H C cl fp => pts_nil) (fun s H C cl fp => (he s H C cl fp).pe) hs) hg1 hv1) hg2 hv2) hg3 hv3) fun D sg H ⟨H0, G0, r, G, Dd, h, er, w, k⟩ => ?_
  rw [hvs]
  refine ⟨H0, G0, r, G, _, _, h, er, w, fun ds J P H1 G1 z wk pe _ ⟨hz, q⟩ Dl hD => ?_, k.xc h⟩
  have gD : G1 Dl = none := by
    cases qq : G1 Dl with
    | none => rfl
    | some u => rw [z.sub Dl u qq] at hD; cases hD
  have nD : NT H Dl := (NT.none hD).back z.ext
  have wl : Walk J ds.length P (fun i H x H' => J.yld i H x H') := ⟨wk.goes, wk.stops, fun _ _ _ _ _ _ y => y⟩
  have ex0 : Same H1 (upd H1 Dl (.lst [])) := fun b u q => by rw [upd_ne (ne_of_none q hD)]; exact q
  have z0 : HR T H1 G1 (upd H1 Dl (.lst [])) G1 := z.laidO hD
  have hOwn : ∀ (j : Nat) es, (wipeD r vs)[j]? = some (.obj es) → (L2.wipe sg vs)[j]? ≠ some (some (.ref Dl)) := fun j es a b => by
    obtain ⟨p, us, a1, a2, _, _, a3⟩ := ((er.grow z).wipe vs).obj j es a
    rw [b] at a1
    cases a1
    rw [hD] at a2
    cases a2
  refine lc_it (g := lfG X.K T is g) (tt := fun _ H Q => Q true H) (te := lfW X.K T noX ts) (vs := vs) (σ := sg) wl (fun i Hc => ∃ (Gc : Hp) (xs : List Md), HR T H G Hc Gc ∧ ExtN H1 Hc ∧ Same G1 Gc ∧ ER X.K H0 (wipeD r vs) (L2.wipe sg vs) Hc Gc ∧ Hc Dl = some (.lst (xs.map fun x => V.ref x.p)) ∧ Gc Dl = none ∧ xs.length = i ∧ (∀ x ∈ xs, MdOk X.K H Hc Gc Dl x) ∧ (xs.map (·.q)).Nodup ∧
      dLcDGo g ts (wipeD r vs) _ (ds.drop i) (xs.map fun x => (x.mkr, x.st)))
    ⟨G1, [], z.trans z0, ExtN.of ex0, Same.refl _, ((er.grow z).grow z0).wipe vs, upd_same, gD, rfl, (fun x hx => by cases hx), List.nodup_nil, q⟩ (fun i Hc _ ⟨_, _, _, a, _⟩ => pe Hc a) (fun i v Hc H' hi ⟨Gc, xs, a1, a2, a3, a4, a5, a6, a7, a8, a9, a10⟩ y => ?_) fun Hc ⟨Gc, xs, a1, a2, a3, a4, a5, a6, a7, a8, a9, a10⟩ => ?_
  · obtain ⟨G2, dd, e1, e2, e3⟩ := wk.yields i Hc Gc v H' hi (pe Hc a2) a1.refl a3 y
    rw [drop_at e1] at a10
    refine ⟨H0, G0, wipeD r vs, G2, dd, _, h.trans (a1.trans e2), a4.grow e2, e3, a10, fun r2 sg2 H2 G3 z2 er2 l2 s2 w2 => ⟨wipe_same l2 fun j hj => s2 j fun q => hj (hv j q), ?_⟩⟩
    refine iteT ?_
    have b1 := (a1.trans e2).trans z2
    refine ⟨H0, G0, r2, G3, _, _, h.trans b1, er2, w2, fun ds' p q ms H3 G4 z3 hQ hI nq hq gq => ?_, fun ds' ⟨mk, st, e, _⟩ => ⟨mk, st, e⟩, fun _ _ _ _ z => z.elim⟩
    obtain ⟨mk, st, rfl, wy⟩ := hQ
    obtain ⟨mk', st', e, hI, dm⟩ := hI
    cases e
    have ec : HR T Hc Gc H3 G4 := (e2.trans z2).trans z3
    have D3 : H3 Dl = some (.lst (xs.map fun x => V.ref x.p)) := ec.ext Dl _ a5 fun ps q => by cases q
    have G4D : G4 Dl = none := ec.noNew a5 a6
    have nqH : ∀ {b : Addr} {o : HO}, Hc b = some o → (∀ ps, o ≠ .tbl ps) → b ≠ q := fun {b o} hb ho hbq => by
      subst hbq
      have := (e2.trans z2).ext _ _ hb ho
      obtain ⟨ps, e⟩ := nq _ this
      exact ho ps e
    have hqD : q ≠ Dl := fun z => nqH a5 (fun ps z => by cases z) z.symm
    refine ⟨_, D3, ?_, G4, xs ++ [⟨p, q, mk, st, ms⟩], (a1.trans ec).poke nD D3 G4D, fun b o e1 e2 => ?_, a3.trans ec.g0, ?_, ?_, G4D, by simp [a7], fun x hx => ?_, ?_, ?_⟩
    · rw [List.length_map, a7]; omega
    · rw [upd_ne (fun zz => by subst zz; rw [hD] at e1; cases e1)]
      exact (a2.trans ec.ext) b o e1 e2
    · exact (a4.grow ec).poke hOwn
    · rw [upd_same, List.map_append]; rfl
    · rcases List.mem_append.mp hx with hx | hx
      · have m := (a8 x hx).grow ec
        exact ⟨m.ins, by rw [upd_ne m.ne]; exact m.lst, m.gq, m.new, m.dp, m.ne⟩
      · rw [List.mem_singleton.mp hx]
        exact ⟨hI, by rw [upd_ne hqD]; exact hq, gq, nq.back b1.ext, dm, hqD⟩
    · rw [List.map_append, List.nodup_append]
      refine ⟨a9, by simp, fun b hb c hc => ?_⟩
      obtain ⟨x, hx, rfl⟩ := List.mem_map.mp hb
      simp at hc
      subst hc
      exact nqH (a8 x hx).lst (fun ps z => by cases z)
    · rw [List.map_append]
      exact wy
  · rw [List.drop_length] at a10
    obtain ⟨m1, m2, m3, s1, s2, s3, hacc, hnx⟩ := a10
    match xs, a5, a8, a9, hacc with
    | [x1, x2, x3], a5, a8, a9, hacc =>
      simp only [List.map_cons, List.map_nil, List.cons.injEq, Prod.mk.injEq, and_true] at hacc
      obtain ⟨⟨rfl, rfl⟩, ⟨rfl, rfl⟩, rfl, rfl⟩ := hacc
      have k1 := a8 x1 (by simp)
      have k2 := a8 x2 (by simp)
      have k3 := a8 x3 (by simp)
      simp only [List.map_cons, List.map_nil, List.nodup_cons, List.mem_cons, List.mem_nil_iff, or_false, not_or, List.nodup_nil, and_true, not_false_eq_true] at a9
      obtain ⟨⟨n12, n13⟩, n23⟩ := a9
      have hr1 := h.trans a1
      have old : ∀ (x : Md), MdOk X.K H Hc Gc Dl x → ∀ (j : Nat) es, r[j]? = some (.obj es) → sg[j]? ≠ some (some (.ref x.q)) := fun x m j es u v => by
        obtain ⟨p', u', c1, c2, _, _, c3⟩ := er.obj j es u
        rw [v] at c1
        cases c1
        obtain ⟨ps, e⟩ := m.new _ c2
        exact c3.notTbl ps e
      have e0 := er.grow a1
      have e1 := e0.setObj g1 (o := .at x1.q (newP x1.st)) k1.lst k1.gq (k1.new.back h.ext) ⟨x1.ms, rfl, rfl, k1.dp⟩ fun j es hj u v => old x1 k1 j es u v
      have e2 := e1.setObj g2 (o := .at x2.q (newP x2.st)) k2.lst k2.gq (k2.new.back h.ext) ⟨x2.ms, rfl, rfl, k2.dp⟩ fun j es hj u v => by
        rcases getSet u with ⟨rfl, _⟩ | ⟨nj, u⟩
        · have hl : j < sg.length := by simpa using (List.getElem?_eq_some_iff.mp v).1
          rw [List.getElem?_set_self hl] at v
          injection v with v
          injection v with v
          injection v with v
          exact n12 v
        · rw [List.getElem?_set_ne (Ne.symm nj)] at v
          exact old x2 k2 j es u v
      have e3 := e2.setObj g3 (o := .at x3.q (newP x3.st)) k3.lst k3.gq (k3.new.back h.ext) ⟨x3.ms, rfl, rfl, k3.dp⟩ fun j es hj u v => by
        rcases getSet u with ⟨rfl, _⟩ | ⟨nj, u⟩
        · have hl : j < sg.length := by simpa using (List.getElem?_eq_some_iff.mp v).1
          rw [List.getElem?_set_self (by simpa using hl)] at v
          injection v with v
          injection v with v
          injection v with v
          exact n23 v
        · rw [List.getElem?_set_ne (Ne.symm nj)] at v
          rcases getSet u with ⟨rfl, _⟩ | ⟨nj', u⟩
          · have hl : j < sg.length := by simpa using (List.getElem?_eq_some_iff.mp v).1
            rw [List.getElem?_set_self hl] at v
            injection v with v
            injection v with v
            injection v with v
            exact n13 v
          · rw [List.getElem?_set_ne (Ne.symm nj')] at v
            exact old x3 k3 j es u v
      obtain ⟨zf, sm⟩ := hr1.freeze a5 (nD.back h.ext)
      have ef := e3.freezeOut (p := Dl) (u := .lst [.ref x1.p, .ref x2.p, .ref x3.p]) (fun j es u v => by
        obtain ⟨p', u', c1, c2, c3, c4, c5⟩ := e3.obj j es u
        rw [v] at c1
        cases c1
        rcases getSet u with ⟨rfl, _⟩ | ⟨nj, u⟩
        · have hl : j < sg.length := by simpa using (List.getElem?_eq_some_iff.mp v).1
          rw [List.getElem?_set_self (by simpa using hl)] at v
          injection v with v
          injection v with v
          injection v with v
          exact k3.ne v
        · rw [List.getElem?_set_ne (Ne.symm nj)] at v
          rcases getSet u with ⟨rfl, _⟩ | ⟨nj, u⟩
          · have hl : j < sg.length := by simpa using (List.getElem?_eq_some_iff.mp v).1
            rw [List.getElem?_set_self (by simpa using hl)] at v
            injection v with v
            injection v with v
            injection v with v
            exact k2.ne v
          · rw [List.getElem?_set_ne (Ne.symm nj)] at v
            rcases getSet u with ⟨rfl, _⟩ | ⟨nj, u⟩
            · have hl : j < sg.length := by simpa using (List.getElem?_eq_some_iff.mp v).1
              rw [List.getElem?_set_self (by simpa using hl)] at v
              injection v with v
              injection v with v
              injection v with v
              exact k1.ne v
            · rw [List.getElem?_set_ne (Ne.symm nj)] at v
              obtain ⟨p2, u2, d1, d2, _, _, d3⟩ := er.obj j es u
              rw [v] at d1
              cases d1
              obtain ⟨ps, e⟩ := nD _ d2
              exact d3.notTbl ps e) sm
      have e5 := ef.setF i (v := .ref Dl) (f := .inss [(x1.q, x1.mkr), (x2.q, x2.mkr), (x3.q, x3.mkr)]) ⟨Dl, _, rfl, SqL.of upd_same, .cons (k1.ins.up sm) (.cons (k2.ins.up sm) (.cons (k3.ins.up sm) .nil))⟩
      refine ⟨some (.ref x1.q), some (.ref x2.q), some (.ref x3.q), ?_⟩
      show D.nx ((((sg.set i (some (.ref Dl))).set g1 (some (.ref x1.q))).set g2 (some (.ref x2.q))).set g3 (some (.ref x3.q))) _
      obtain ⟨t1, t2, t3⟩ := hne
      rw [List.set_comm _ _ t1, List.set_comm _ _ t2, List.set_comm _ _ t3]
      exact k.nx _ _ _ _ zf (a1.g0.trans sm) e5 (hnx x1.q x2.q x3.q)
end
end Fd
end
section
set_option Elab.async false
set_option linter.all false
set_option maxRecDepth 100000
set_option autoImplicit false
set_option maxHeartbeats 4000000
/-! Fh1: a lambda of one parameter, handed down a recursion. -/
namespace Fd
open PySem PySem.Spec PyProof.Rows L2 LamX
theorem un_far {fs fs' : List Addr} {Hx H H1 : Hp} {hx h h1 : Heap} (a : Un fs [] Hx H hx h) (b : Un fs' [] H H1 h h1) (hf : ∀ c ∈ fs', c ∈ fs ∨ hx.objs.size ≤ c) : Un fs [] Hx H1 hx h1 := by
  have out : ∀ c o, hx.get? c = some o → c ∉ fs → c ∉ fs' := fun c o q hc z => by
    rcases hf c z with y | y
    · exact hc y
    · exact Nat.lt_irrefl _ (Nat.lt_of_lt_of_le (Heap.lt_size q) y)
  refine ⟨fun c o q n hc hx => b.keep c o (a.keep c o q n hc hx) (a.free c o q n hx) (out c o q hc) hx, fun c o q n hc hx => ?_, fun c o q n hx => ?_, fun c o q hx => ?_, fun c xs q => b.tups c xs (a.tups c xs q), fun c o u q => b.frzs c o u (a.frzs c o u q), fun c ps q => ?_⟩
  · obtain ⟨sl, e1⟩ := a.slot c o q n hc hx
    obtain ⟨sl', e2⟩ := b.any e1 (a.free c o q n hx) hx
    exact ⟨sl', e2⟩
  · obtain ⟨o', e1⟩ := a.there c o q hx
    exact b.free c o' e1 (a.free c o q n hx) hx
  · obtain ⟨o', e1⟩ := a.there c o q hx
    exact b.there c o' e1 hx
  · obtain ⟨m1, e1⟩ := a.tbls c ps q
    obtain ⟨m2, e2⟩ := b.tbls c _ e1
    exact ⟨m1 ++ m2, by rw [e2, Array.append_assoc]⟩
/-- outer, s, H stand behind X's Hx, sx, some calls deeper -/
structure Far (X : Cx) (Hx : Hp) (sx : Shared) (outer : List Env) (s : Shared) (H : Hp) : Prop where
  un : Un (frs X.stack) [] Hx H sx.heap s.heap
  fr : ∀ b ∈ frs outer, b ∈ frs X.stack ∨ sx.heap.objs.size ≤ b
  sz : sx.heap.objs.size ≤ s.heap.objs.size
theorem Far.refl {X : Cx} {Hx : Hp} {sx : Shared} : Far X Hx sx X.stack sx Hx := ⟨Un.refl, fun _ h => .inl h, Nat.le_refl _⟩
section
variable {X : Cx} {T : Tb} {Hx Gx : Hp} {sx : Shared}
theorem Far.inn {CXg : CXT} {N : List Str} {x : Str} {sc : Scope} {g : Addr} {cdv : Value} {A : Around} {outer : List Env} {s s1 : Shared} {H H1 : Hp} {E : XK} {pins : List (Addr × Obj)} {sg : L2.St} (F : Far X Hx sx outer s H)
    (I : Inv (cxOf CXg X.prog X.w X.K X.mg X.base N x sc g cdv A outer s H E).nox pins sg H1 s1) : Far X Hx sx (cxOf CXg X.prog X.w X.K X.mg X.base N x sc g cdv A outer s H E).nox.stack s1 H1 := by
  have hlt : s.heap.objs.size < s1.heap.objs.size := I.lt
  refine ⟨un_far F.un I.base F.fr, fun b hb => ?_, Nat.le_trans F.sz (Nat.le_of_lt hlt)⟩
  have hb : b ∈ frs (envOfC x sc s.heap.objs.size g cdv :: outer) := hb
  rcases List.mem_cons.mp (show b ∈ s.heap.objs.size :: frs outer from hb) with e | e
  · rw [e]; exact .inr F.sz
  · exact F.fr b e
theorem ER.far {K : PySem.W.Frag} {H0 H0' H H' G G' : Hp} {r : Ev} {sg : L2.St} (n : noObj r = true) (e : ER K H0 r sg H G) (sm : Same G G') : ER K H0' r sg H' G' :=
  ⟨e.len, fun i d z => let ⟨v, a, b⟩ := e.dat i d z; ⟨v, a, b.up sm⟩, fun i o z => absurd z (noObj_at n), fun i j o o' p z => absurd z (noObj_at n), fun i f z => let ⟨v, a, b⟩ := e.fct i f z; ⟨v, a, b.up sm⟩⟩
/-- what is known of a lambda of one parameter at f that was made in X; fl: what it comes to -/
def Lam1 (X : Cx) (T : Tb) (Hx Gx : Hp) (sx : Shared) (f c' : Addr) (kk : Nat) (fl : PyData → M PyData) : Prop :=
  ∃ (pins : List (Addr × Obj)) (sg : L2.St) (r : Ev) (params : Arguments) (body : Expr) (scope : Scope) (x : Str) (j : Nat) (pm ctv : Value) (tb : DE), Inv X pins sg Hx sx ∧ LamS1 X.env.scope scope x ∧ X.N.Nodup ∧ X.N[j]? = some x ∧
    sx.heap.get? f = some (PySem.W.kla_obj "<lambda>" (X.env.qual ++ "<lambda>") params body scope (cloFrom X.env.cells scope.names []) pm c' ctv) ∧ Hx f = none ∧ f ∉ frs X.stack ∧
    (∀ u : Value, bindArgs (PySem.W.kla_fn "<lambda>" (X.env.qual ++ "<lambda>") params body scope (cloFrom X.env.cells scope.names []) pm (.ref c') ctv) ⟨[u], []⟩ = pure [(x, u)]) ∧
    (∀ (A : Around) (outer : List Env) (s : Shared) (H : Hp), Room kk (A.deeper (lamEnv X scope s.heap.objs.size f c')) → FE (lamCx X A outer s H (fun _ _ _ => False) scope f c') T (fun _ _ _ => False) body tb) ∧
    noObj r = true ∧ ER X.K Hx r sg Hx Gx ∧ ∀ d Q, fl d Q (fun _ => False) → tb (r.set j (.dat d)) Q (fun _ => False)
/-- what is wanted of the lambda's call -/
def ByQ (X : Cx) (T : Tb) (Gx : Hp) (c' : Addr) (fl : PyData → M PyData) (Q : VK) (v : V) (H2 : Hp) : Prop :=
  H2 c' = some (CodeO c' (X.env.qual ++ "<lambda>")) ∧ ∃ G2 d Qd, HR T H2 G2 H2 G2 ∧ Same Gx G2 ∧ Dp X.K G2 v d ∧ fl d Qd (fun _ => False) ∧ ∀ d' v' H' G', HR T H2 G2 H' G' → Dp X.K G' v' d' → Qd d' → Q v' H'
/-- x(e), x: the lambda -/
theorem pe_by {CXg : CXT} {N : List Str} {x a : Str} {sc : Scope} {g f c' : Addr} {cdv : Value} {A : Around} {outer : List Env} {s : Shared} {H : Hp} {E : XK} {kk i : Nat} {fl : PyData → M PyData} {e : Expr} {ta : TE} {p1 p2 : Pos} (L : Lam1 X T Hx Gx sx f c' kk fl) (F : Far X Hx sx outer s H)
    (hr : Room (kk + 1) (cxOf CXg X.prog X.w X.K X.mg X.base N x sc g cdv A outer s H E).nox.A) (ha : PE (cxOf CXg X.prog X.w X.K X.mg X.base N x sc g cdv A outer s H E).nox e ta)
    (hN : N[i]? = some a) (hv : Vis sc a) (hd : (a == ("__debug__" : Str)) = false) (hcd : (a == ("__classdict__" : Str)) = false)
    (he : starEach [e] (cxOf CXg X.prog X.w X.K X.mg X.base N x sc g cdv A outer s H E).nox.env = (false, eval e (cxOf CXg X.prog X.w X.K X.mg X.base N x sc g cdv A outer s H E).nox.env) :: starEach [] (cxOf CXg X.prog X.w X.K X.mg X.base N x sc g cdv A outer s H E).nox.env) :
    PE (cxOf CXg X.prog X.w X.K X.mg X.base N x sc g cdv A outer s H E).nox (.Call (.Name a p1) [e] [] p2) (fun sg H1 Q => sg[i]? = some (some (.ref f)) ∧ ta sg H1 (fun v H2 => ∃ w, [v] = [w] ∧ ByQ X T Gx c' fl Q w H2)) := by
  obtain ⟨pins, sg, r, params, body, scope, y, j, pm, ctv, tb, I, LS, nd, hj, hf, hfn, hfr, hbind, hbody, no, er, hfl⟩ := L
  refine ⟨fun pinsZ sZ sgZ HZ Q IZ ⟨hs, ht⟩ => ?_⟩
  refine wpAny_Call_Name_kw (thn ((pe_var (pos := p1) (i := i) hN hv hd hcd).run pinsZ sZ sgZ HZ (fun v H1 => v = .ref f ∧ H1 = HZ) IZ ⟨.ref f, hs, rfl, rfl⟩) fun u s1 ⟨v, H1, I1, r1, q1⟩ => ?_)
  obtain ⟨ev, eH⟩ := q1
  subst ev
  rw [eH] at I1
  obtain rfl : u = Value.ref f := r1
  have ob : ∀ {s2 : Shared} {H2 : Hp}, Far X Hx sx (cxOf CXg X.prog X.w X.K X.mg X.base N x sc g cdv A outer s H E).nox.stack s2 H2 → s2.heap.get? f = some (PySem.W.kla_obj "<lambda>" (X.env.qual ++ "<lambda>") params body scope (cloFrom X.env.cells scope.names []) pm c' ctv) := fun {s2 H2} F2 => F2.un.keep f _ hf hfn hfr (by simp)
  have of1 := ob (F.inn I1)
  refine PySem.W.callWith_F ⟨_, _, _, _, of1⟩ (thn ((pa_cons ha pa_nil he).run p2 pinsZ s1 sgZ HZ (fun vs H2 => ∃ v, vs = [v] ∧ ByQ X T Gx c' fl Q v H2) I1 ?_) fun us s2 ⟨vs, H2, I2, rv, v, evs, hc, G2, d, Qd, h2, sm, dv, hq, kq⟩ => ?_) he rfl
  · exact ht
  · have F2 := F.inn I2
    have of2 := ob F2
    refine ⟨⟨_, _, _, _, of2⟩, ?_⟩
    subst evs
    obtain ⟨u, rfl, ru⟩ := vals1 rv
    obtain ⟨⟨oc, vs, t, hoc, hdc, hvc⟩, _, _⟩ := I2.hok c' _ hc
    have rc : codeAny (model X.prog X.w) (cxOf CXg X.prog X.w X.K X.mg X.base N x sc g cdv A outer s H E).nox.A (.call (.ref f) ⟨[u], []⟩) (CR (L2.CX X.prog X.w) (cxOf CXg X.prog X.w X.K X.mg X.base N x sc g cdv A outer s H E).nox.stack X.prog X.w H2 s2 Q fun _ _ _ => False) s2 := by
      refine PySem.W.kla_callFunE hr.depth of2 rfl LS.co LS.gen rfl ⟨c', oc, vs, t, rfl, hoc, hdc, hvc⟩ ?_
      rw [hbind]
      refine wpAny_pure (wpAny_newFunctionEnv (fun y hy => (LS.own y hy).2) (fun z hz => by
        have e : z = (y, u) := by simpa using hz
        rw [e]
        exact LS.loc) (fun h₁ hns hsb => ⟨I2.nolimit.fresh _ hsb, ?_⟩) LS.kind)
      show codeAny _ _ (.expr body (lamEnv X scope s2.heap.objs.size f c')) _ _
      have kp : ∀ b o, s2.heap.get? b = some o → h₁.get? b = some o := fun b o e => hsb.extBut b o (Nat.ne_of_lt (Heap.lt_size e)) (Heap.get?_push_of_some _ e)
      have J : Inv (lamCx X (cxOf CXg X.prog X.w X.K X.mg X.base N x sc g cdv A outer s H E).nox.A (cxOf CXg X.prog X.w X.K X.mg X.base N x sc g cdv A outer s H E).nox.stack s2 H2 (fun _ _ _ => False) scope f c') [] (sg.set j (some v)) H2 { s2 with heap := h₁, toks := s2.toks + ([(y, u)] : List (Str × Value)).length } :=
        lam_start1 I LS nd hj ru I2.env0 hr.hd F2.un hns kp
      refine PySem.W.kla_codeExpr (wpAny_mono ((hbody _ _ s2 H2 (hr.deeper _)).pe.run [] _ _ H2 Q J ?_) (fun v s' hq => ?_) fun e s' hq => hq)
      · exact ⟨H2, G2, r.set j (.dat d), G2, Qd, fun _ => False, h2, ((er.far (H0' := H2) (H' := H2) no sm).set j dv), hfl d Qd hq, kq, fun _ _ _ _ z => z.elim⟩
      · obtain ⟨w', H', J', rv, q⟩ := hq
        exact ⟨w', H', J'.os, J'.bare, J'.base, J'.hok, rv, q⟩
    refine wpAny_call (codeAny_mono rc fun r s' hq => ?_)
    cases r with
    | error e =>
      obtain ⟨_, _, _, _, _, _, _, _, _, _, _, _, _, _, _, _, z⟩ := hq
    | ok fl =>
      cases fl with
      | ret u => exact I2.after hq
      | next => exact False.elim hq
      | brk => exact False.elim hq
      | cont => exact False.elim hq
/-- a def's promise, behind X's Hx, sx -/
structure FnL (X : Cx) (Hx : Hp) (sx : Shared) (k : Nat) (g : Addr) (fd : FuncData) (ps : List Str) (sp : Sp) : Prop where
  len : ∀ vs H Q E, sp vs H Q E → vs.length = ps.length
  run : ∀ (A : Around) (outer : List Env) (s : Shared) (H : Hp) (args : Args) (us : List Value) (vs : List V) (Q : VK) (E : XK), Room k A → Env0 X.prog X.w X.K X.mg X.base A outer s H → Far X Hx sx outer s H → BindsTo s fd args (ps.zip us) → Vals vs us → sp vs H Q E →
    codeAny (model X.prog X.w) A (.call (.ref g) args) (CR CX0 outer X.prog X.w H s Q E) s
def spL (X : Cx) (T : Tb) (Gx : Hp) (f c' : Addr) (ff : PyData → PyData → M PyData) : Sp := fun vs H Q E => ∃ v1 v2 d1 d2 G Qd, vs = [v1, v2, .ref f] ∧ HR T H G H G ∧ Same Gx G ∧ H c' = some (CodeO c' (X.env.qual ++ "<lambda>")) ∧ Dp X.K G v1 d1 ∧ Dp X.K G v2 d2 ∧ ff d1 d2 Qd (fun _ => False) ∧
  ∀ d v H' G', HR T H G H' G' → Dp X.K G' v d → Qd d → Q v H'
/-- the def at g, given two things and the lambda, keeps ff -/
def OkL (X : Cx) (T : Tb) (Hx Gx : Hp) (sx : Shared) (f c' : Addr) (k : Nat) (g : Addr) (ff : PyData → PyData → M PyData) : Prop := ∃ fd ps, FnL X Hx sx k g fd ps (spL X T Gx f c' ff) ∧ Binds X.K fd ps []
theorem run_fnL {Z : Cx} {pins : List (Addr × Obj)} {sg : L2.St} {H : Hp} {s : Shared} {Q : VK} {us : List Value} {vs : List V} {k : Nat} {g : Addr} {fd : FuncData} {ps : List Str} {sp : Sp} (F : FnL X Hx sx k g fd ps sp) (hp : Z.prog = X.prog) (hw : Z.w = X.w) (e0 : Env0 X.prog X.w X.K X.mg X.base Z.A Z.stack s H) (far : Far X Hx sx Z.stack s H) (hr : Room k Z.A) (hb : Binds X.K fd ps []) (hK : X.K.In s.heap)
    (I : Inv Z pins sg H s) (r : Vals vs us) (h : sp vs H Q (fun _ _ _ => False)) : wpAny (model Z.prog Z.w) Z.A (call (.ref g) us) (EP Z pins sg Q) Z.xe s := by
  have hl : us.length = ps.length := by rw [← r.length]; exact F.len _ _ _ _ h
  have b := hb s us hK (by rw [List.append_nil]; exact hl)
  rw [List.append_nil] at b
  refine wpAny_call (codeAny_mono (by rw [hp, hw]; exact F.run Z.A Z.stack s H ⟨us, []⟩ us vs Q _ hr e0 far b r h) fun r s' hq => ?_)
  cases r with
  | error e => exact hq.elim
  | ok fl =>
    cases fl with
    | ret u => exact I.after (by rw [hp, hw]; exact hq)
    | next => exact False.elim hq
    | brk => exact False.elim hq
    | cont => exact False.elim hq
/-- x(e, ..), in a def behind X -/
theorem pe_callF {CXg : CXT} {N : List Str} {q x : Str} {sc : Scope} {g0 g : Addr} {cdv : Value} {A : Around} {outer : List Env} {s : Shared} {H : Hp} {E : XK} {k : Nat} {fd : FuncData} {ps : List Str} {sp : Sp} {e : Expr} {es : List Expr} {t : TA} {p pos : Pos} (F : FnL X Hx sx k g fd ps sp) (far : Far X Hx sx outer s H)
    (hr : Room k (cxOf CXg X.prog X.w X.K X.mg X.base N q sc g0 cdv A outer s H E).nox.A) (hg : Gl (cxOf CXg X.prog X.w X.K X.mg X.base N q sc g0 cdv A outer s H E).nox x) (hm : X.mg x = some (.ref g)) (hk : PySem.W.keepIn X.K (.ref g) = true) (hb : Binds X.K fd ps [])
    (ha : PA (cxOf CXg X.prog X.w X.K X.mg X.base N q sc g0 cdv A outer s H E).nox (e :: es) t) (hdb : (x == ("__debug__" : Str)) = false)
    (he : starEach (e :: es) (cxOf CXg X.prog X.w X.K X.mg X.base N q sc g0 cdv A outer s H E).nox.env = (false, eval e (cxOf CXg X.prog X.w X.K X.mg X.base N q sc g0 cdv A outer s H E).nox.env) :: starEach es (cxOf CXg X.prog X.w X.K X.mg X.base N q sc g0 cdv A outer s H E).nox.env)
    (hpl : (backTo pos (starEach es (cxOf CXg X.prog X.w X.K X.mg X.base N q sc g0 cdv A outer s H E).nox.env)).any (·.1) = false) :
    PE (cxOf CXg X.prog X.w X.K X.mg X.base N q sc g0 cdv A outer s H E).nox (.Call (.Name x p) (e :: es) [] pos) (fun sg H1 Q => t sg H1 (fun vs H2 => sp vs H2 Q (fun _ _ _ => False))) := by
  refine ⟨fun pins s1 sg H1 Q I h => ?_⟩
  refine wpAny_Call_Name_kw (ld_glob I hg hm ?_ hdb)
  refine PySem.W.callWith_K (h₀ := X.base) I.ok.mod.kin hk (thn (ha.run pos pins s1 sg H1 _ I h) fun us s2 ⟨vs, H2, I2, r, q⟩ => ⟨I2.kIn, ?_⟩) he hpl
  exact run_fnL F rfl rfl I2.env0 (far.inn I2) hr hb I2.kIn I2 r q
/-- the reading of: if c: return by(e0); st1; y = x(e1, e2, by); return e4 -/
def fPut (tc : DT) (t0 : DE) (ts1 : DS) (t1 t2 t4 : DE) (n i : Nat) (fr : PyData → PyData → M PyData) (fl : PyData → M PyData) : PyData → PyData → M PyData := fun d1 d2 Q _ => ∀ f,
  tc ([.dat d1, .dat d2, .fct (.fn f)] ++ List.replicate (n - 3) .no) (fun b => if b = true then t0 ([.dat d1, .dat d2, .fct (.fn f)] ++ List.replicate (n - 3) .no) (fun d => fl d Q (fun _ => False)) (fun _ => False) else
    ts1 { nx := fun r1 => r1[2]? = some (.fct (.fn f)) ∧ t1 r1 (fun a => t2 r1 (fun b => fr a b (fun d => t4 (r1.set i (.dat d)) Q (fun _ => False)) (fun _ => False)) (fun _ => False)) (fun _ => False), rt := fun _ => False } ([.dat d1, .dat d2, .fct (.fn f)] ++ List.replicate (n - 3) .no)) (fun _ => False)
theorem okL_never {x : Str} {st : Stmt} {g f c' : Addr} {ps : List Str} (F : ∃ fd, FunD X.K x x (defArgs st) (defBody st) (defScope st) [] [] g fd)
    (hbind : ∀ (kV doc pm : Value) (an : Option Addr) (cdv ct : Value) (us : List Value), us.length = ps.length → bindArgs (PySem.W.fnOf x x (defArgs st) (defBody st) (defScope st) .none kV doc pm an cdv ct) ⟨us, []⟩ = pure (ps.zip us)) (k : Nat) : OkL X T Hx Gx sx f c' k g (fun _ _ _ _ => False) := by
  obtain ⟨fd, F⟩ := F
  exact ⟨fd, ps, ⟨fun vs H Q E ⟨_, _, _, _, _, _, _, _, _, _, _, _, z, _⟩ => z.elim, fun A outer s H args us vs Q E _ _ _ _ _ ⟨_, _, _, _, _, _, _, _, _, _, _, _, z, _⟩ => z.elim⟩, F.bindsN hbind⟩
theorem mkPut {x a y : Str} {st st1 : Stmt} {g f c' : Addr} {N ps : List Str} {k kk i : Nat} {tc : DT} {t0 t1 t2 t4 : DE} {ts1 : DS} {c e0 e1 e2 e4 : Expr} {fr : PyData → PyData → M PyData} {fl : PyData → M PyData} {pa pb pc pd py px pa2 pe pf pg : Pos} (L : Lam1 X T Hx Gx sx f c' kk fl) (R : OkL X T Hx Gx sx f c' k g fr) (hkk : kk + 1 ≤ k)
    (F : ∃ fd, FunD X.K x x (defArgs st) (defBody st) (defScope st) [] [] g fd) (hm : X.mg x = some (.ref g)) (S : FnScope N ps (defScope st)) (hps : ps.length = 3)
    (hbind : ∀ (kV doc pm : Value) (an : Option Addr) (cdv ct : Value) (us : List Value), us.length = ps.length → bindArgs (PySem.W.fnOf x x (defArgs st) (defBody st) (defScope st) .none kV doc pm an cdv ct) ⟨us, []⟩ = pure (ps.zip us))
    (hbd : defBody st = [.If c [.Return (some (.Call (.Name a pa) [e0] [] pb)) pc] [] pd, st1, .Assign [.Name y py] (.Call (.Name x px) [e1, e2, .Name a pa2] [] pe) pf, .Return (some e4) pg])
    (nd : N.Nodup) (ha : N[2]? = some a) (hva : Vis (defScope st) a) (had : (a == ("__debug__" : Str)) = false) (hac : (a == ("__classdict__" : Str)) = false) (hy : N[i]? = some y) (hvy : (defScope st).names.lookup y = some .local ∨ (defScope st).names.lookup y = some .cell) (hg : (defScope st).names.lookup x = some .globalImplicit) (hdb : (x == ("__debug__" : Str)) = false)
    (hs0 : ∀ env, starEach [e0] env = (false, eval e0 env) :: starEach [] env) (hs1 : ∀ env, starEach [e1, e2, .Name a pa2] env = (false, eval e1 env) :: starEach [e2, .Name a pa2] env) (hs2 : ∀ env, starEach [e2, .Name a pa2] env = (false, eval e2 env) :: starEach [.Name a pa2] env)
    (hs3 : ∀ env, (backTo pe (starEach [e2, .Name a pa2] env)).any (·.1) = false)
    (hb : ∀ (cdv : Value) (A : Around) (outer : List Env) (s : Shared) (H : Hp) (E : XK), Room k (A.deeper (envOfC x (defScope st) s.heap.objs.size g cdv)) →
      FT (cxOf CX0 X.prog X.w X.K X.mg X.base N x (defScope st) g cdv A outer s H E).nox T E c tc ∧ FE (cxOf CX0 X.prog X.w X.K X.mg X.base N x (defScope st) g cdv A outer s H E).nox T E e0 t0 ∧ FS (cxOf CX0 X.prog X.w X.K X.mg X.base N x (defScope st) g cdv A outer s H E).nox T E st1 ts1 ∧
      FE (cxOf CX0 X.prog X.w X.K X.mg X.base N x (defScope st) g cdv A outer s H E).nox T E e1 t1 ∧ FE (cxOf CX0 X.prog X.w X.K X.mg X.base N x (defScope st) g cdv A outer s H E).nox T E e2 t2 ∧ FE (cxOf CX0 X.prog X.w X.K X.mg X.base N x (defScope st) g cdv A outer s H E).nox T E e4 t4) :
    OkL X T Hx Gx sx f c' (k + 1) g (fPut tc t0 ts1 t1 t2 t4 N.length i fr fl) := by
  obtain ⟨fd, F⟩ := F
  have bN := F.bindsN hbind
  have kp := F.kp
  obtain ⟨oc, od, dV, kV, doc, pm, an, cdv, ct, osl, rfl, lk, hcd, _, _⟩ := F.ex
  obtain ⟨fd2, ps2, FL, hb2⟩ := R
  refine ⟨_, ps, ⟨fun vs H Q E ⟨v1, v2, _, _, _, _, e, _⟩ => by rw [e, hps]; rfl, fun A outer s H args us vs Q E hr e0' far hb' r ⟨v1, v2, d1, d2, G, Qd, ev, h, sm, hc, p1, p2, hf, kq⟩ => ?_⟩, bN⟩
  subst ev
  refine run_ofS lk hcd S hr e0' hb' r (by rw [hps]; rfl) fun hr' => ?_
  obtain ⟨Hc, H0, H1, Ha1, Ha2, H4⟩ := hb cdv A outer s H E hr'
  refine ⟨_, PSs.nox (by
    rw [hbd]
    exact pss_cons (ps_if Hc.pt (pss_one (ps_ret (pe_by L far (hr'.mono hkk) H0.pe ha hva had hac (hs0 _)))) pss_nil) (pss_cons H1.ps (pss_cons (ps_set (i := i) nd hy hvy (pe_callF FL far hr' hg hm kp hb2 (pa_cons Ha1.pe (pa_cons Ha2.pe (pa_cons (pe_var ha hva had hac) pa_nil rfl) (hs2 _)) (hs1 _)) hdb (hs1 _) (hs3 _))) (pss_one (ps_ret H4.pe))))), ?_⟩
  have hl3 : 3 ≤ N.length := by
    have := (List.getElem?_eq_some_iff.mp ha).1
    omega
  have er : ER X.K H ([.dat d1, .dat d2, .fct (.fn f)] ++ List.replicate (N.length - 3) .no) (L2.start N [v1, v2, .ref f]) H G := by
    have e1 := (er_start (T := T) (H := H) (N := N) (DpAll.cons p1 (.cons p2 .nil))).setF 2 (f := .fn f) (v := .ref f) rfl
    obtain ⟨n, hn⟩ : ∃ n, N.length = n + 3 := ⟨N.length - 3, by omega⟩
    have q1 : (startD N [d1, d2]).set 2 (.fct (.fn f)) = [.dat d1, .dat d2, .fct (.fn f)] ++ List.replicate (N.length - 3) .no := by
      unfold startD
      rw [hn]
      simp [List.replicate_succ]
    have q2 : (L2.start N [v1, v2]).set 2 (some (.ref f)) = L2.start N [v1, v2, .ref f] := by
      unfold L2.start
      rw [hn]
      simp [List.replicate_succ]
    rw [q1, q2] at e1
    exact e1
  refine ⟨H, G, _, G, _, fun _ => False, h, er, hf f, fun b H' G' z q => ?_, fun _ _ _ _ z => z.elim⟩
  cases b with
  | true =>
    rw [if_pos rfl] at q
    refine iteT ?_
    obtain ⟨v, hv2, ev⟩ := er.fct 2 (.fn f) rfl
    have ev : v = .ref f := ev
    subst ev
    exact ⟨hv2, H, G, _, G', _, fun _ => False, h.trans z, er.grow z, q, fun d v H2 G2 z2 pd hq => ⟨v, rfl, (z.trans z2).ext c' _ hc codeO_ne, G2, d, Qd, z2.refl, sm.trans (z.g0.trans z2.g0), pd, hq, fun d' v' H3 G3 z3 pd' hq' => kq d' v' H3 G3 ((z.trans z2).trans z3) pd' hq'⟩, fun _ _ _ _ z => z.elim⟩
  | false =>
    rw [if_neg Bool.false_ne_true] at q
    refine iteF ?_
    refine ⟨H, G, _, G', _, h.trans z, er.grow z, q, ⟨fun r1 sg1 H1 G1 hz s1 er1 ⟨hr2, w1⟩ => ?_, fun _ _ _ _ _ _ _ q => q.elim, fun _ _ _ _ _ _ _ q => q.elim, fun _ _ _ _ _ _ q => q.elim, fun _ _ _ _ q => q.elim⟩⟩
    obtain ⟨v, hv2, ev⟩ := er1.fct 2 (.fn f) hr2
    have ev : v = .ref f := ev
    subst ev
    refine ⟨H, G, r1, G1, _, fun _ => False, hz, er1, w1, fun da va H2 G2 z2 pa w2 => ?_, fun _ _ _ _ z => z.elim⟩
    refine ⟨H, G, r1, G2, _, fun _ => False, hz.trans z2, er1.grow z2, w2, fun db vb H3 G3 z3 pb w3 => ?_, fun _ _ _ _ z => z.elim⟩
    have z13 := hz.trans (z2.trans z3)
    refine ⟨.ref f, hv2, va, vb, da, db, G3, _, rfl, z3.refl, sm.trans z13.g0, z13.ext c' _ hc codeO_ne, pa.up z3.g0, pb, w3, fun d v H4 G4 z4 pd w4 => ?_⟩
    exact ⟨H, G, r1.set i (.dat d), G4, Qd, fun _ => False, z13.trans z4, (er1.grow ((z2.trans z3).trans z4)).set i pd, w4, fun d' v' H5 G5 z5 pd' hq' => kq d' v' H5 G5 ((z13.trans z4).trans z5) pd' hq', fun _ _ _ _ z => z.elim⟩
/-! ### x(e1, e2, lambda y: body) -/
@[simp] def dPut (ff : (PyData → M PyData) → PyData → PyData → M PyData) (t1 t2 : DE) (j : Nat) (tb : DE) : DE := fun r Q E => t1 r (fun a => t2 r (fun b => noObj r = true ∧ ff (fun d Q _ => tb (r.set j (.dat d)) Q (fun _ => False)) a b Q (fun _ => False)) E) E
theorem fe_put {x y : Str} {g c P : Addr} {j k kk jj : Nat} {ff : (PyData → M PyData) → PyData → PyData → M PyData} {E : XK} {e1 e2 body : Expr} {t1 t2 tb : DE} {params : Arguments} {scope : Scope} {p lpos pos : Pos}
    (C : ∀ (Hx Gx : Hp) (sx : Shared) (f c' : Addr) (fl : PyData → M PyData), Lam1 X T Hx Gx sx f c' kk fl → OkL X T Hx Gx sx f c' k g (ff fl)) (hm : X.mg x = some (.ref g)) (hk : PySem.W.keepIn X.K (.ref g) = true) (hg : Gl X x)
    (h1 : FE X T E e1 t1) (h2 : FE X T E e2 t2) (nd : X.N.Nodup) (hj : X.N[j]? = some y)
    (TB : TabB X.base X.mg c P) (hcode : X.env.code = .ref c) (hmT : (P, X.env.qual ++ "<lambda>") ∈ T) (hu : ∀ p ∈ T, p.1 = P → p.2 = X.env.qual ++ "<lambda>") (hr : Room jj X.A) (L : LamS1 X.env.scope scope y) (hdef : defaultsOf params X.env = ([], []))
    (hbind : ∀ (q : Str) (cl : List (Str × Addr)) (pm cv ctv u : Value), bindArgs (PySem.W.kla_fn "<lambda>" q params body scope cl pm cv ctv) ⟨[u], []⟩ = pure [(y, u)])
    (hbody : ∀ (A : Around) (outer : List Env) (s : Shared) (H : Hp) (f c' : Addr), Room kk (A.deeper (lamEnv X scope s.heap.objs.size f c')) → FE (lamCx X A outer s H (fun _ _ _ => False) scope f c') T (fun _ _ _ => False) body tb)
    (hkj : Nat.ble k jj = true := by rfl) (hdb : (x == ("__debug__" : Str)) = false := by decide)
    (he : starEach [e1, e2, .Lambda params body scope lpos] X.env = (false, eval e1 X.env) :: starEach [e2, .Lambda params body scope lpos] X.env := by rfl) (he2 : starEach [e2, .Lambda params body scope lpos] X.env = (false, eval e2 X.env) :: [(false, eval (.Lambda params body scope lpos) X.env)] := by rfl)
    (hpl : (backTo pos (starEach [e2, .Lambda params body scope lpos] X.env)).any (·.1) = false := by rfl) :
    FE X T E (.Call (.Name x p) [e1, e2, .Lambda params body scope lpos] [] pos) (dPut ff t1 t2 j tb) := by
  refine ⟨⟨fun pins s sg H Q I ⟨H0, G0, r, G, Qd, Ed, h, er, w, kq, xc⟩ => ?_⟩⟩
  refine wpAny_Call_Name_kw (ld_glob I hg hm ?_ hdb)
  refine PySem.W.callWith_K (h₀ := X.base) I.ok.mod.kin hk ?_ he hpl
  rw [he, he2]
  show wpAny _ _ (spliced ((false, eval e1 X.env) :: (false, eval e2 X.env) :: (false, eval (.Lambda params body scope lpos) X.env) :: [])) _ _ s
  refine Calls.spliced_cons (thn (h1.pe.run pins s sg H (fun v1 H1 => ∃ G1 d1, HR T H G H1 G1 ∧ Dp X.K G1 v1 d1 ∧ t2 r (fun b => noObj r = true ∧ ff (fun d Q _ => tb (r.set j (.dat d)) Q (fun _ => False)) d1 b Qd (fun _ => False)) Ed) I ⟨H0, G0, r, G, _, Ed, h, er, w, fun d v H' G' z pd q => ⟨G', d, z, pd, q⟩, xc⟩) fun u1 s1 ⟨v1, H1, I1, r1, G1, d1, z1, p1, w1⟩ => ?_)
  refine Calls.spliced_cons (thn (h2.pe.run pins s1 sg H1 (fun v2 H2 => ∃ G2 d2, HR T H1 G1 H2 G2 ∧ Dp X.K G2 v2 d2 ∧ noObj r = true ∧ ff (fun d Q _ => tb (r.set j (.dat d)) Q (fun _ => False)) d1 d2 Qd (fun _ => False)) I1 ⟨H0, G0, r, G1, _, Ed, h.trans z1, er.grow z1, w1, fun d v H' G' z pd q => ⟨G', d, z, pd, q⟩, xc.up z1⟩) fun u2 s2 ⟨v2, H2, I2, r2, G2, d2, z2, p2, no, w2⟩ => ?_)
  refine Calls.spliced_cons (lam_make2 I2 TB hcode hmT hu z2.tabs hdef (L.has I.ok) fun f c' pm ctv H3 s3 I3 ext T3 hf hfn hfr hco => ?_)
  refine Calls.spliced_nil ⟨I3.kIn, ?_⟩
  have z3 := z2.ext' ext T3
  have z12 := z1.trans z2
  have L1 : Lam1 X T H3 G2 s3 f c' kk (fun d Q _ => tb (r.set j (.dat d)) Q (fun _ => False)) :=
    ⟨pins, sg, r, params, body, scope, y, j, pm, ctv, tb, I3, L, nd, hj, hf, hfn, hfr, fun u => hbind _ _ _ _ _ u, fun A outer s H hr => hbody A outer s H f c' hr, no, (er.grow z12).far no (Same.refl _), fun d Q q => q⟩
  obtain ⟨fd, ps, F, hb⟩ := C H3 G2 s3 f c' _ L1
  exact run_fnL (vs := [v1, v2, .ref f]) F rfl rfl I3.env0 Far.refl (hr.mono (Nat.le_of_ble_eq_true hkj)) hb I3.kIn I3 (.cons r1 (.cons r2 (.cons rfl .nil))) ⟨v1, v2, d1, d2, G2, Qd, rfl, z3.refl, Same.refl _, hco, p1.up z2.g0, p2, w2, fun d v H' G' z pd q => kq d v H' G' ((z12.trans z3).trans z) pd q⟩
end
end Fd
end
section
set_option Elab.async false
set_option linter.all false
set_option maxRecDepth 100000
set_option autoImplicit false
set_option maxHeartbeats 4000000
/-! Fh2: plain tuples out of defs that raise, told; dicts that stay: len, walked, ==. -/
namespace Fd
open PySem PySem.Spec PyProof.Rows L2 LamX
/-! ### defs that raise and give plain tuples -/
def spXP (K : PySem.W.Frag) (T : Tb) (ff : List PyData → M PyData) : Sp := fun vs H Q E => spP K T ff vs H Q (fun c d H => E (clsOf K c) d H)
def OkXP (P : Program) (w : World) (K : PySem.W.Frag) (mg : Str → Option Value) (base : Heap) (T : Tb) (k : Nat) (x : Str) (ps : List Str) (ff : List PyData → M PyData) : Prop :=
  ∃ f fd, FnOk P w K mg base (L2.CX P w) k f fd ps (spXP K T ff) ∧ mg x = some (.ref f) ∧ PySem.W.keepIn K (.ref f) = true ∧ Binds K fd ps []
section
variable {P : Program} {w : World} {K : PySem.W.Frag} {mg : Str → Option Value} {base : Heap} {T : Tb}
theorem mkOkXP {x : Str} {st : Stmt} {f : Addr} {N ps : List Str} {k : Nat} {t : DS} {ff : List PyData → M PyData} (F : ∃ fd, FunD K x x (defArgs st) (defBody st) (defScope st) [] [] f fd) (hm : mg x = some (.ref f)) (S : FnScope N ps (defScope st))
    (hbind : ∀ (kV doc pm : Value) (an : Option Addr) (cdv ct : Value) (us : List Value), us.length = ps.length → bindArgs (PySem.W.fnOf x x (defArgs st) (defBody st) (defScope st) .none kV doc pm an cdv ct) ⟨us, []⟩ = pure (ps.zip us))
    (len : ∀ ds Q E, ff ds Q E → ds.length = ps.length)
    (hb : ∀ (cdv : Value) (A : Around) (outer : List Env) (s : Shared) (H : Hp) (E : XK), Room k (A.deeper (envOfC x (defScope st) s.heap.objs.size f cdv)) →
      TX (cxOf (L2.CX P w) P w K mg base N x (defScope st) f cdv A outer s H E) (fun c d H => E (clsOf K c) d H) →
      PassesOwn (model P w) (cxOf (L2.CX P w) P w K mg base N x (defScope st) f cdv A outer s H E).A (cxOf (L2.CX P w) P w K mg base N x (defScope st) f cdv A outer s H E).env (cxOf (L2.CX P w) P w K mg base N x (defScope st) f cdv A outer s H E).xe →
      FSP (cxOf (L2.CX P w) P w K mg base N x (defScope st) f cdv A outer s H E) T (fun c d H => E (clsOf K c) d H) (defBody st) t)
    (ht : ∀ ds Q E, ff ds Q E → t { nx := fun _ => False, rt := Q, ex := E } (startD N ds)) : OkXP P w K mg base T (k + 1) x ps ff := by
  obtain ⟨fd, F⟩ := F
  refine ⟨f, fd, ?_, hm, F.kp, F.bindsN hbind⟩
  obtain ⟨oc, od, dV, kV, doc, pm, an, cdv, ct, osl, rfl, lk, hcd, _, _⟩ := F.ex
  refine fn_of lk hcd S (fun vs H Q E ⟨ds, G, Qd, Ed, a, b, c, _⟩ => b.len.trans (len ds Qd Ed c)) fun A outer s H vs Q E hr ⟨ds, G, Qd, Ed, a, b, c, d, x⟩ => ⟨_, (hb cdv A outer s H E hr ⟨_, takes_of rfl rfl rfl rfl, fun c sg H q => q⟩ (passes_of rfl)).pss, ?_⟩
  exact ⟨H, G, startD N ds, G, _, a, er_start (T := T) b, ht ds Qd Ed c, ⟨fun _ _ _ _ _ _ _ q => q.elim, fun _ _ _ _ _ _ _ q => q.elim, fun _ _ _ _ _ _ _ q => q.elim, fun dd v H' G' z p pl q => d dd v H' G' z p pl q, fun c H' G' z q => x c H' G' z q⟩⟩
end
section
variable {X : Cx} {T : Tb} {E : XK} {e : Expr} {es : List Expr} {pos : Pos}
theorem fp_defX {j k : Nat} {x : Str} {ps : List Str} {p : Pos} {ff : List PyData → M PyData} {ts : DA} (F : OkXP X.prog X.w X.K X.mg X.base T k x ps ff) (tx : TX X E) (hr : Room j X.A) (hg : Gl X x) (ha : FA X T E (e :: es) ts) (hk : Nat.ble k j = true := by rfl) (hdb : (x == ("__debug__" : Str)) = false := by decide) (he : starEach (e :: es) X.env = (false, eval e X.env) :: starEach es X.env := by rfl)
    (hpl : (backTo pos (starEach es X.env)).any (·.1) = false := by rfl) : FP X T E (.Call (.Name x p) (e :: es) [] pos) (dCall ff ts) := by
  obtain ⟨f, fd, F, hm, hkp, hb⟩ := F
  refine FP.mk' (pe_call F (hr.mono (Nat.le_of_ble_eq_true hk)) hg hm hkp hb .nil (tx_pass tx) ha.pa hdb he hpl) fun sg H Q ⟨H0, G0, r, G, Qd, Ed, h, er, w, k, x⟩ => ?_
  refine ⟨H0, G0, r, G, _, Ed, h, er, w, fun ds vs H1 G1 h1 p1 w1 => ?_, x⟩
  exact ⟨ds, G1, Qd, Ed, h1.refl, by rw [List.append_nil]; exact p1, w1, fun d v H' G' z p pl q => k d v H' G' (h1.trans z) p pl q, fun c H' G' z q => ⟨rfl, c, rfl, x.up h1 c H' G' z q⟩⟩
/-! ### found = told(lambda: ..) -/
@[simp] def dSetTP (i : Nat) (cs : List (Str × PyData)) (t : DE) : DS := fun D r => t r (fun d => D.nx (r.set i (.fct (.plt [.str "told", d])))) (fun c => ∃ n d, (n, d) ∈ cs ∧ c = xT n ∧ D.nx (r.set i (.fct (.plt [.str "refused", d]))))
theorem fs_toldP {i : Nat} {x y : Str} {cv : List (Str × V)} {cd : List (Str × PyData)} {c P : Addr} {j k : Nat} {params : Arguments} {body : Expr} {scope : Scope} {t : DE} {p lpos pos' cpos : Pos} (hN : X.N.Nodup) (hi : X.N[i]? = some y) (hy : Loc X.env.scope y) (C : Told X.K X.mg x (TTold X.K cv)) (hcs : ∀ n d, (n, d) ∈ cd → ∃ v, (n, v) ∈ cv ∧ ∀ G, Dp X.K G v d) (hnr : ∀ n v, (n, v) ∈ cv → ∀ b, v ≠ .ref b) (hg : Gl X x)
    (TB : TabB X.base X.mg c P) (hcode : X.env.code = .ref c) (hmT : (P, X.env.qual ++ "<lambda>") ∈ T) (hu : ∀ p ∈ T, p.1 = P → p.2 = X.env.qual ++ "<lambda>") (hr : Room j X.A) (L : LamS X.env.scope scope) (hdef : defaultsOf params X.env = ([], []))
    (hbind : ∀ (q : Str) (cl : List (Str × Addr)) (pm cv ctv : Value), bindArgs (PySem.W.kla_fn "<lambda>" q params body scope cl pm cv ctv) ⟨[], []⟩ = pure [])
    (hbody : ∀ (A : Around) (outer : List Env) (s : Shared) (H : Hp) (E : XK) (f c' : Addr), Room k (A.deeper (lamEnv X scope s.heap.objs.size f c')) → FP (lamCx X A outer s H E scope f c') T (fun c d H => E (clsOf X.K c) d H) body t)
    (hk : Nat.ble (k + 2) j = true := by rfl) (hdb : (x == ("__debug__" : Str)) = false := by decide) (hs : swapsWith (.Call (.Name x p) [.Lambda params body scope lpos] [] cpos) (some (.Name y pos')) pos.line X.env = pure false := by rfl) (hf : X.fn y = true ∨ X.env.scope.names.lookup y = some .local := by first | exact .inl rfl | exact .inr rfl | assumption) :
    FS X T E (.Assign [.Name y pos'] (.Call (.Name x p) [.Lambda params body scope lpos] [] cpos) pos) (dSetTP i cd t) := by
  obtain ⟨a, g, Ng, pg, bg, sg, dV, kV, doc, pm, cdv, ct, oc, an, od, osl, hm, hkp, lk, hc, hb, S, h0, hv, hd, hcd, hG⟩ := C
  have hr2 := hr.mono (Nat.le_of_ble_eq_true hk)
  refine FS.mk' (ps_set hN hi hy (pe_lamcall (t := fun E => lfP X.K T (fun c d H => E (clsOf X.K c) d H) t) hg hm hkp lk hc hb S h0 hv (hG X _ (k + 1) rfl rfl hr2) TB hcode hmT hu hr2 L hdef hbind (fun A outer s H E f c' h => (hbody A outer s H E f c' h).pe) hdb hd hcd) hs hf) fun D sg H ⟨H0, G0, r, G, Dd, h, er, w, kk⟩ => ?_
  refine ⟨h.tabs, fun H1 ex tb => ?_⟩
  have h1 : HR T H G H1 G := ⟨ext_of_same h.sub h.nt ex, h.nt, tb, ex, Same.refl _, fun a z => .inl z⟩
  refine ⟨fun cls d H' => d = none ∧ ∃ n v, (n, v) ∈ cv ∧ cls = .ref (He.ga X.K n) ∧ ∀ H2 p, Same H' H2 → H' p = none → H2 p = some (.tup [.str "refused", v]) → D.nx (sg.set i (some (.ref p))) H2, fun v H' => ∀ p, H' p = none → D.nx (sg.set i (some (.ref p))) (upd H' p (.tup [.str "told", v])),
    ⟨H0, G0, r, G, _, _, h.trans h1, er.grow h1, w, fun d v H2 G2 h2 p2 pl q p hp => ?_, fun cc H2 G2 h2 ⟨n, d, hnd, ec, q⟩ => ?_⟩, fun _ _ _ z => z, fun _ _ z => z⟩
  · have z := (h2.refl).laidT (vs := [.str "told", v]) hp
    have zz := (h1.trans h2).trans z
    refine kk.nx _ _ _ _ (h.trans zz) zz.g0 ((er.grow zz).setF i (f := .plt [.str "told", d]) ⟨p, [.str "told", v], rfl, SqT.of upd_same, .cons (.str _) (.cons (p2.up z.g0) .nil), fun x hx _ => ?_⟩) q
    have : x = v := (Option.some.inj hx).symm
    rw [this]
    exact pl.up z.g0
  · obtain ⟨v, hv, dv⟩ := hcs n d hnd
    refine ⟨rfl, n, v, hv, by rw [ec]; rfl, fun H3 p sm np hp => ?_⟩
    have gp : G2 p = none := by
      cases q : G2 p with
      | none => rfl
      | some u => rw [h2.sub p u q] at np; cases np
    have z : HR T H2 G2 H3 (upd G2 p (.tup [.str "refused", v])) := by
      refine ⟨fun b o e => ?_, fun b ps e => ?_, h2.tabs.ext sm, ExtN.of sm, fun b o e => by rw [upd_ne (ne_of_none e gp)]; exact e, fun b e => ?_⟩
      · by_cases hb : b = p
        · subst hb; rw [upd_same] at e; cases e; exact hp
        · rw [upd_ne hb] at e; exact sm b o (h2.sub b o e)
      · by_cases hb : b = p
        · subst hb; rw [upd_same] at e; cases e
        · rw [upd_ne hb] at e; exact h2.nt b ps e
      · by_cases hb : b = p
        · subst hb; exact .inr (NT.none np)
        · rw [upd_ne hb] at e; exact .inl e
    have zz := (h1.trans h2).trans z
    refine kk.nx _ _ _ _ (h.trans zz) zz.g0 ((er.grow zz).setF i (f := .plt [.str "refused", d]) ⟨p, [.str "refused", v], rfl, SqT.of upd_same, .cons (.str _) (.cons (dv _) .nil), fun x hx ⟨b, hb⟩ => ?_⟩) q
    have : x = v := (Option.some.inj hx).symm
    exact absurd (this.symm.trans hb) (hnr n v hv b)
/-! ### names of such things -/
@[simp] def dVarT (i : Nat) : DE := fun r Q _ => ∃ ds, r[i]? = some (.fct (.plt ds)) ∧ Q (.tuple ds)
theorem fe_varT (i : Nat) {x : Str} (hN : X.N[i]? = some x := by rfl) (hv : Vis X.env.scope x := by first | exact Or.inl rfl | exact Or.inr (Or.inl rfl) | exact Or.inr (Or.inr rfl)) (hd : (x == ("__debug__" : Str)) = false := by decide)
    (hcd : (x == ("__classdict__" : Str)) = false := by decide) : FE X T E (.Name x pos) (dVarT i) := by
  refine FE.mk' (pe_var hN hv hd hcd) fun sg H Q ⟨H0, G0, r, G, Qd, Ed, h, er, ⟨ds, hd, q⟩, k, x⟩ => ?_
  obtain ⟨v, a, p, xs, e, hs, ha, _⟩ := er.fct i _ hd
  subst e
  exact ⟨_, a, k _ _ H G h.refl (.tup hs ha) q⟩
@[simp] def dVarP (i : Nat) : DE := fun r Q _ => ∃ d, r[i]? = some (.fct (.pl d)) ∧ Q d
theorem fp_var (i : Nat) {x : Str} (hN : X.N[i]? = some x := by rfl) (hv : Vis X.env.scope x := by first | exact Or.inl rfl | exact Or.inr (Or.inl rfl) | exact Or.inr (Or.inr rfl)) (hd : (x == ("__debug__" : Str)) = false := by decide)
    (hcd : (x == ("__classdict__" : Str)) = false := by decide) : FP X T E (.Name x pos) (dVarP i) := by
  refine FP.mk' (pe_var hN hv hd hcd) fun sg H Q ⟨H0, G0, r, G, Qd, Ed, h, er, ⟨d, hd, q⟩, k, x⟩ => ?_
  obtain ⟨v, a, b, c⟩ := er.fct i _ hd
  exact ⟨v, a, k _ _ H G h.refl b c q⟩
/-- some = found[1] -/
@[simp] def dItemP (i j : Nat) : DS := fun D r => ∃ a xs, r[j]? = some (.fct (.plt [a, .tuple xs])) ∧ D.nx (r.set i (.fct (.pl (.tuple xs))))
theorem fs_itemP {i j : Nat} {x y : Str} {n : Nat} {p1 p2 p3 pos' : Pos} (hN : X.N.Nodup) (hi : X.N[i]? = some y) (hy : Loc X.env.scope y) (hj : X.N[j]? = some x) (hv : Vis X.env.scope x) (hd : (x == ("__debug__" : Str)) = false := by decide)
    (hcd : (x == ("__classdict__" : Str)) = false := by decide) (hs : swapsWith (.Subscript (.Name x p1) (.Constant (.int 1) n p2) p3) (some (.Name y pos')) pos.line X.env = pure false := by rfl) (hf : X.fn y = true ∨ X.env.scope.names.lookup y = some .local := by first | exact .inl rfl | exact .inr rfl | assumption) :
    FS X T E (.Assign [.Name y pos'] (.Subscript (.Name x p1) (.Constant (.int 1) n p2) p3) pos) (dItemP i j) := by
  refine FS.mk' (ps_set hN hi hy (pe_ix ix_seq (pe_var hj hv hd hcd) pe_int (fun _ _ => rfl)) hs hf) fun D sg H ⟨H0, G0, r, G, Dd, h, er, ⟨a, xs, hr, w⟩, kk⟩ => ?_
  obtain ⟨v, a1, p, us, e, hs', ha, hpl⟩ := er.fct j _ hr
  subst e
  have h2 : ∃ u, us[1]? = some u ∧ Dp X.K G u (.tuple xs) := ha.atD (i := 1) rfl
  obtain ⟨u, hu, du⟩ := h2
  refine ⟨.ref p, a1, ?_⟩
  have at1 : atI us 1 = some u := Fd.atI_nat (i := 1) hu
  have sq := sqT_mono h.sub hs'
  have fin : D.nx (sg.set i (some u)) H := kk.nx _ _ H G h (Same.refl _) (er.setF i (f := .pl (.tuple xs)) ⟨du, by
    cases du with
    | tup _ _ => exact hpl _ hu ⟨_, rfl⟩⟩) w
  exact .inr (.inl ⟨_, _, 1, u, rfl, rfl, sq, at1, fin⟩)
/-! ### dicts that stay -/
theorem pe_frz {t : TE} (h : PE X e t) : PE X e (fun sg H Q => t sg H (fun v H1 => ∃ p u, v = .ref p ∧ H1 p = some u ∧ Mut (some u) ∧ ∀ od, Q v (upd H1 p (.frz od u)))) := by
  refine ⟨fun pins s sg H Q I w => ?_⟩
  refine thn (h.run pins s sg H _ I w) fun u s1 ⟨v, H1, I1, r1, p, o, ev, hp, mu, q⟩ => ?_
  obtain ⟨od, I2⟩ := I1.lock hp mu
  exact ⟨v, _, I2, r1, q od⟩
@[simp] def dSetDct (i : Nat) (tm : DM) : DS := fun D r => tm r (fun o => ∃ kvs, o = .dN kvs ∧ D.nx (r.set i (.fct (.dct kvs)))) D.ex
theorem fs_setDct {i : Nat} {x : Str} {tm : DM} {pos' : Pos} (hN : X.N.Nodup) (hi : X.N[i]? = some x) (hx : Loc X.env.scope x) (he : FM X T E e tm) (hs : swapsWith e (some (.Name x pos')) pos.line X.env = pure false := by rfl) (hf : X.fn x = true ∨ X.env.scope.names.lookup x = some .local := by first | exact .inl rfl | exact .inr rfl | assumption) :
    FS X T E (.Assign [.Name x pos'] e pos) (dSetDct i tm) := by
  refine FS.mk' (ps_set hN hi hx (pe_frz he.pe) hs hf) fun D sg H ⟨H0, G0, r, G, Dd, h, er, w, k⟩ => ?_
  refine ⟨H0, G0, r, G, _, _, h, er, w, fun o p u H' G' z n hp gp a ⟨kvs, eo, q⟩ => ?_, k.xc h⟩
  subst eo
  have nt := a.notTbl
  have nc := a.notCode
  obtain ⟨xs, eu, pr, nd, hl, gd⟩ := a
  subst eu
  refine ⟨p, _, rfl, hp, True.intro, fun od => ?_⟩
  have z1 := z.pokeX (u' := .frz od (DcO p xs)) n hp nt nc gp
  obtain ⟨z2, sm⟩ := z1.freezeX (p := p) (u := .frz od (DcO p xs)) upd_same (fun ps q => by cases q) n
  exact k.nx _ _ _ _ (h.trans z2) (z.g0.trans sm) ((er.grow z2).setF i (f := .dct kvs) ⟨p, od, xs, rfl, upd_same, L2.Paired.mapP pr fun kv x ⟨h1, h2, v, h3, h4⟩ => ⟨h1, h2.up sm, v, h3, h4.up sm⟩, nd, hl, gd⟩) q
section
variable {pins : List (Addr × Obj)} {sg : L2.St} {H : Hp} {s : Shared}
theorem dict_at (I : Inv X pins sg H s) {p : Addr} {o : Obj} {xs : List (NestedKey × Addr × Value)} (hp : H p = some (.frz o (DcO p xs))) (d : DKs X.K H xs) : s.heap.get? p = some o ∧ (p == sysModules) = false ∧ s.heap.DictOfH (nestedKind X.prog X.w) p xs := by
  obtain ⟨ho, ⟨h1, o', es, ep, h2, h3, h4, h5⟩, _⟩ := (show ObjOk X.prog X.w H s.heap p (.frz o (DcO p xs)) from I.hok p _ hp)
  refine ⟨ho, h1, o', es, ep, h2, h3, h4, ?_, fun x hx => key_is I (d.keys x hx).1 (d.keys x hx).2, d.nd⟩
  rw [h5]
  apply List.map_congr_left
  intro x hx
  show (⟨nhash x.1, .ref x.2.1, x.2.2⟩ : DictEntry) = ⟨x.1.hash X.w, .ref x.2.1, x.2.2⟩
  rw [hash_eq X.w x.1 (goodK_of (d.keys x hx).2).1]
end
def rLenN (K : PySem.W.Frag) : List V → Hp → VK → Prop := fun vs H Q => ∃ p o xs, vs = [.ref p] ∧ H p = some (.frz o (DcO p xs)) ∧ DKs K H xs ∧ xs.length ≤ sizeLine ∧ Q (.int ((xs.length : Nat) : Int)) H
theorem call_lenN : CallR X (.builtin "len") (rLenN X.K) := by
  intro pins s σ H xs us Q I r h
  obtain ⟨p, o, ys, rfl, hp, d, hl, q⟩ := h
  obtain ⟨u, rfl, rx⟩ := vals1 r
  obtain rfl : u = .ref p := rx
  obtain ⟨_, hd, dd⟩ := dict_at I hp d
  refine call_len_dictH hd dd (by rw [sizeLine_eq] at hl; omega) ?_
  exact ⟨.int ((ys.length : Nat) : Int), H, I.tok _, ⟨_, rfl⟩, q⟩
@[simp] def dLenD (i : Nat) : DE := fun r Q _ => ∃ kvs, r[i]? = some (.fct (.dct kvs)) ∧ Q (.int ((kvs.length : Nat) : Int))
theorem fe_lenD (i : Nat) {x : Str} {p p1 : Pos} (hg : Gl X "len") (hm : X.mg "len" = none) (hbv : bootBuiltins "len" = some (.builtin "len")) (hN : X.N[i]? = some x := by rfl) (hv : Vis X.env.scope x := by first | exact Or.inl rfl | exact Or.inr (Or.inl rfl) | exact Or.inr (Or.inr rfl)) (hd : (x == ("__debug__" : Str)) = false := by decide)
    (hcd : (x == ("__classdict__" : Str)) = false := by decide) (he : starEach [.Name x p1] X.env = (false, eval (.Name x p1) X.env) :: starEach [] X.env := by rfl) (hpl : (backTo pos (starEach [] X.env)).any (·.1) = false := by rfl) : FE X T E (.Call (.Name "len" p) [.Name x p1] [] pos) (dLenD i) := by
  refine FE.mk' (pe_callB call_lenN hg hm hbv (pa_cons (pe_var hN hv hd hcd) pa_nil he) (by decide) (by decide) he hpl) fun sg H Q ⟨H0, G0, r, G, Qd, Ed, h, er, ⟨kvs, hd, q⟩, k, x⟩ => ?_
  obtain ⟨v, a, p, o, xs, e, hp, pr, nd, hl, gd⟩ := er.fct i _ hd
  subst e
  refine ⟨_, a, p, o, xs, rfl, h.sub _ _ hp, dks_of pr h.sub nd gd, by rw [← paired_len pr]; exact hl, ?_⟩
  rw [← paired_len pr]
  exact k _ _ H G h.refl (.int _) q
/-! ### walked -/
def ItN (K : PySem.W.Frag) (d : Addr) (o : Obj) (xs : List (NestedKey × Addr × Value)) : It where
  go := fun i H => H d = some (.frz o (DcO d xs)) ∧ DKs K H xs ∧ i < xs.length
  yld := fun i H x H' => H' = H ∧ ∃ k, xs[i]? = some k ∧ x = .ref k.2.1
  stop := fun i H => H d = some (.frz o (DcO d xs)) ∧ DKs K H xs ∧ xs.length ≤ i
theorem dict_raw {P : Program} {w : World} {h : Heap} {d : Addr} {o : Obj} {es : Array DictEntry} {ep : Nat} {xs : List (NestedKey × Addr × Value)} (ho : h.get? d = some o) (hod : o.data = .dict es ep) (dd : h.DictOfH (nestedKind P w) d xs) : h.DictRaw d es ep ∧ es.toList = xs.map (entryOfKey (nestedKind P w)) := by
  obtain ⟨o', es', ep', h1, h2, h3, h4, _⟩ := dd
  rw [ho] at h1
  cases h1
  rw [hod] at h3
  cases h3
  exact ⟨⟨o, ho, h2, hod⟩, h4⟩
theorem turn_keysN {P : Program} {w : World} {K : PySem.W.Frag} {tg : Expr} {d : Addr} {o : Obj} {es : Array DictEntry} {ep : Nat} {xs : List (NestedKey × Addr × Value)} (it : Addr) (hod : o.data = .dict es ep) : Turn P w K tg (ItN K d o xs) [it] it (fun i h => h.IsKeyIter it d i es.size ep) where
  mem := by simp
  obj := fun i h st b hb => by
    have e : b = it := by simpa using hb
    subst e
    obtain ⟨oi, e, c, dd⟩ := st
    exact ⟨oi, e, fun v z => by rw [dd] at z; cases z⟩
  keep := fun i h h' st k => st.at fun oi e => k it (by simp) oi e
  item := by
    intro X hP hw hK hc i pins s σ H E I hf st hg
    subst hP hw hK
    obtain ⟨hd, dk, hi⟩ := hg
    obtain ⟨f0, f1, f2, f3, f4, f5⟩ := hf it (by simp)
    obtain ⟨ho, hs, dd⟩ := dict_at I hd dk
    obtain ⟨raw, hes⟩ := dict_raw ho hod dd
    have hsz := size_of_entries hes
    have hlt : i < es.size := by rw [hsz]; exact hi
    refine wpAny_pyNext_keys_item_raw st raw hlt fun h' st' sb => ?_
    have I1 : Inv X pins σ H { s with heap := h' } := I.turned (t' := s.toks) (fun b ob hb e => (sb.2 b hb).trans e) f0 f1 f3 f4 f5
    obtain ⟨oi, e, c, dat⟩ := id st'
    have ek : es[i].key = .ref (xs[i]).2.1 := by
      have := entry_at hes i
      rw [Array.getElem?_eq_getElem hlt, List.getElem?_eq_getElem hi, Option.map_some] at this
      rw [Option.some.inj this]
      rfl
    exact ⟨es[i].key, rfl, go_of (s := { s with heap := h' }) e c dat (by decide) ⟨.ref (xs[i]).2.1, H, I1, by rw [ek]; rfl, ⟨rfl, xs[i], List.getElem?_eq_getElem hi, rfl⟩, st', fun b hb => (hf b hb).1⟩⟩
  done := by
    intro X hP hw hK hc i pins s σ H E I hf st hg
    subst hP hw hK
    obtain ⟨hd, dk, hi⟩ := hg
    obtain ⟨f0, f1, f2, f3, f4, f5⟩ := hf it (by simp)
    obtain ⟨ho, hs, dd⟩ := dict_at I hd dk
    obtain ⟨raw, hes⟩ := dict_raw ho hod dd
    have hsz := size_of_entries hes
    exact wpAny_pyNext_keys_end_raw (I.ok.hd hc) st raw (by rw [hsz]; exact hi) fun h' eb => ⟨rfl, I.turned (t' := s.toks) (fun b ob hb e => eb b ob hb e) f0 f1 f3 f4 f5⟩
  self := fun A i s Q E st h => by
    refine wpAny_pyIter_slot st.typeIs F.slot_dict_keyiterator_iter (wpAny_call_entry F.slot_dict_keyiterator_iter st.typeIs F.entry_dict_keyiterator_iter ?_ (F.args_dict_keyiterator_iter_1 _))
    show wpAny _ _ (ret (.ref it)) _ _ s
    exact wpAny_pure ⟨_, rfl, "dict_keyiterator", _, st.typeIs, F.slot_dict_keyiterator_next.lookup, h⟩
theorem pi_keysN {tg : Expr} {td : TE} (he : PE X e td) : PI X tg e (fun sg H R => td sg H fun x H1 => ∃ d o xs, x = .ref d ∧ H1 d = some (.frz o (DcO d xs)) ∧ DKs X.K H1 xs ∧ R (ItN X.K d o xs) H1) := by
  refine ⟨fun pins s σ H R I h => ?_⟩
  refine thn (he.run pins s σ H _ I h) fun u s1 ⟨x, H1, I1, rx, d, o, xs, ex, hd, dk, q⟩ => ?_
  subst ex
  obtain rfl : u = Value.ref d := rx
  obtain ⟨ho, hs, dd⟩ := dict_at I1 hd dk
  obtain ⟨es, ep, hod⟩ : ∃ es ep, o.data = .dict es ep := by
    obtain ⟨o', es', ep', h1, h2, h3, _⟩ := id dd
    rw [ho] at h1
    cases h1
    exact ⟨_, _, h3⟩
  obtain ⟨raw, hes⟩ := dict_raw ho hod dd
  exact wpAny_pyIter_dict_raw hs raw (pi_one (tk := s1.toks) I1 _ (turn_keysN _ hod) ⟨_, Heap.get?_push_size _ rfl, rfl, rfl⟩ q)
@[simp] def dKeysD (i : Nat) : DA := fun r Q _ => ∃ kvs, r[i]? = some (.fct (.dct kvs)) ∧ Q (kvs.map fun p => p.1.data)
theorem paired_atL {A B : Type} {R : A → B → Prop} : ∀ {l : List A} {m : List B} {j : Nat} {x : A}, Paired R l m → l[j]? = some x → ∃ y, m[j]? = some y ∧ R x y
  | _, _, _, _, .nil, h => by simp at h
  | _, _, 0, _, .cons h _, e => by simp at e; subst e; exact ⟨_, rfl, h⟩
  | _, _, j + 1, _, .cons _ t, e => by
    obtain ⟨y, h1, h2⟩ := paired_atL (j := j) t (by simpa using e)
    exact ⟨y, by simpa using h1, h2⟩
theorem paired_atR {A B : Type} {R : A → B → Prop} : ∀ {l : List A} {m : List B} {j : Nat} {y : B}, Paired R l m → m[j]? = some y → ∃ x, l[j]? = some x ∧ R x y
  | _, _, _, _, .nil, h => by simp at h
  | _, _, 0, _, .cons h _, e => by simp at e; subst e; exact ⟨_, rfl, h⟩
  | _, _, j + 1, _, .cons _ t, e => by
    obtain ⟨y, h1, h2⟩ := paired_atR (j := j) t (by simpa using e)
    exact ⟨y, by simpa using h1, h2⟩
theorem fi_keysD (i : Nat) {x : Str} {tg : Expr} (hN : X.N[i]? = some x := by rfl) (hv : Vis X.env.scope x := by first | exact Or.inl rfl | exact Or.inr (Or.inl rfl) | exact Or.inr (Or.inr rfl)) (hd : (x == ("__debug__" : Str)) = false := by decide)
    (hcd : (x == ("__classdict__" : Str)) = false := by decide) {fz : Bool} : FI X T E fz tg (.Name x pos) (dKeysD i) := by
  refine FI.mk' (pi_keysN (pe_var hN hv hd hcd)) fun sg H R ⟨H0, G0, r, G, Qd, Ed, h, er, ⟨kvs, hd, q⟩, k, x⟩ => ?_
  obtain ⟨v, a, p, o, xs, e, hp, pr, nd, hl, gd⟩ := er.fct i _ hd
  subst e
  have ln := paired_len pr
  refine ⟨_, a, p, o, xs, rfl, h.sub _ _ hp, dks_of pr h.sub nd gd, k (kvs.map fun p => p.1.data) (ItN X.K p o xs) (fun H2 => Same G H2) H G h.refl ⟨fun j H2 hj sm => ⟨sm _ _ hp, dks_of pr sm nd gd, ?_⟩, fun H2 sm => ⟨sm _ _ hp, dks_of pr sm nd gd, ?_⟩, fun j H2 G2 y H3 hj sm h2 sg ⟨eH, kk, hk, ey⟩ => ?_⟩ (fun H2 ex => ext_of_same h.sub h.nt ex) (fun _ H2 sm => sm) q⟩
  · rw [List.length_map] at hj; omega
  · rw [List.length_map]; omega
  · subst eH ey
    obtain ⟨kv, h1, e1, d1, _⟩ := paired_atR pr hk
    exact ⟨G2, kv.1.data, by rw [List.getElem?_map, h1]; rfl, h2, d1.up sg⟩
/-! ### == -/
section
variable {prog : Program} {w : World} {K : Type} [DecidableEq K] {knd : HeapKind prog w K} {A : Around} {Ex : Value → Shared → Prop} {s : Shared}
theorem samePairsH {nm : String} {a b : Addr} {xa xb : List (K × Addr × Value)} {Q : Bool → Shared → Prop} (hu : knd.room A) (ha : (a == sysModules) = false) (hb : (b == sysModules) = false)
    (da : s.heap.DictOfH knd a xa) (db : s.heap.DictOfH knd b xb) (hl : xa.length = xb.length) (hits : ∀ x ∈ xa, ∃ (j : Nat) (p : Addr × Value), xb[j]? = some (x.1, p) ∧ SeqAt.EqAt A s x.2.2 p.2 true) (h : Q true s) :
    wpAny (model prog w) A (Builtin.Dict.samePairs nm a b) Q Ex s := by
  obtain ⟨oa, es, ep, hoa, _, hda, hea, hia, hna⟩ := da
  obtain ⟨ob, es', ep', hob, _, hdb, heb, hib, hnb⟩ := db
  have hla := size_of_entries hea
  have hlb := size_of_entries heb
  have hsz : es.size = es'.size := by omega
  unfold Builtin.Dict.samePairs Builtin.Dict.showsAll
  rw [if_neg (show ¬ (a == sysModules) = true by rw [ha]; exact Bool.false_ne_true), if_neg (show ¬ (b == sysModules) = true by rw [hb]; exact Bool.false_ne_true)]
  refine wpAny_bind (wpAny_pure (wpAny_bind (wpAny_pure ?_)))
  refine wpAny_bind (wpAny_dictEntries hoa hda ?_)
  dsimp only
  refine wpAny_bind (wpAny_dictEntries hob hdb ?_)
  rw [if_neg (by rw [hsz]; simp)]
  refine wpAny_bind (wpAny_dictEpoch hoa hda ?_)
  refine wpAny_bind ?_
  rw [Std.Legacy.Range.forIn_eq_forIn_range']
  simp only [Std.Legacy.Range.size, Nat.sub_zero, Nat.add_sub_cancel, Nat.div_one]
  refine wpAny_forIn_list _ (fun rest q s' => s' = s ∧ q = (none, ()) ∧ ∃ i, rest = List.range' i (es.size - i) ∧ i ≤ es.size) _ ?_ ?_ _ _ ⟨rfl, rfl, 0, by simp, Nat.zero_le _⟩
  · rintro x rest q s' ⟨rfl, rfl, i, hr, hi⟩
    have hlt : i < es.size := by
      rcases Nat.lt_or_ge i es.size with h | h
      · exact h
      · rw [Nat.sub_eq_zero_of_le h] at hr; simp at hr
    obtain ⟨rfl, hrest⟩ : x = i ∧ rest = List.range' (i + 1) (es.size - (i + 1)) := by
      have e : es.size - i = (es.size - (i + 1)) + 1 := by omega
      rw [e, List.range'_succ] at hr
      injection hr with h1 h2
      exact ⟨h1, h2⟩
    refine wpAny_bind (wpAny_dictEntries hoa hda ?_)
    rw [Array.getElem?_eq_getElem hlt]
    have hlt' : x < xa.length := by rw [← hla]; exact hlt
    have ee : es[x] = entryOfKey knd xa[x] := by
      have := entry_at hea x
      rw [Array.getElem?_eq_getElem hlt, List.getElem?_eq_getElem hlt', Option.map_some] at this
      exact Option.some.inj this
    have hm : xa[x] ∈ xa := List.getElem_mem hlt'
    obtain ⟨j, p, hj, hq⟩ := hits _ hm
    show wpAny _ _ (holding [es[x].key, es[x].val] _ >>= _) _ _ _
    rw [ee]
    refine wpAny_bind (wpAny_holding (wpAny_bind (wpAny_dictFind_heap (k := xa[x].1) hu (hia _ hm) hob hdb heb hib hnb (fun hno => absurd hj (hno j p)) fun j' p' hj' => ?_)))
    have ej : j' = j := by
      have h1 : (xb.map (·.1))[j']? = some xa[x].1 := by rw [List.getElem?_map, hj']; rfl
      have h2 : (xb.map (·.1))[j]? = some xa[x].1 := by rw [List.getElem?_map, hj]; rfl
      exact (List.getElem?_inj (List.getElem?_eq_some_iff.mp h1).1 hnb).mp (h1.trans h2.symm)
    subst ej
    refine wpAny_bind (wpAny_dictEntries hob hdb ?_)
    rw [entry_at heb j', hj]
    refine wpAny_holding (hq prog w _ _ ?_)
    show wpAny _ _ (if (!true) = true then _ else _) _ _ _
    rw [if_neg (by decide)]
    refine wpAny_bind (wpAny_dictEpoch hoa hda ?_)
    rw [if_neg (by simp)]
    exact wpAny_pure ⟨rfl, rfl, x + 1, hrest, hlt⟩
  · rintro q s' ⟨rfl, rfl, i, hr, hi⟩
    exact wpAny_pure h
theorem eq_dictsH {a b : Addr} {xa xb : List (K × Addr × Value)} {Q : Value → Shared → Prop} (hr : knd.room A.in1) (ha : (a == sysModules) = false) (hb : (b == sysModules) = false)
    (da : s.heap.DictOfH knd a xa) (db : s.heap.DictOfH knd b xb) (hu : A.units < cLine) (hl : xa.length = xb.length) (hits : ∀ x ∈ xa, ∃ (j : Nat) (p : Addr × Value), xb[j]? = some (x.1, p) ∧ SeqAt.EqAt A.in1 s x.2.2 p.2 true) (h : Q (.bool true) s) :
    wpAny (model prog w) A (compareOp .Eq (.ref a) (.ref b)) Q Ex s := by
  refine wpAny_richCompare_same_room (op := .Eq) da.typeIs db.typeIs PySem.F.slot_dict_eq (wpAny_call_entry PySem.F.slot_dict_eq da.typeIs PySem.F.entry_dict_eq ?_ (PySem.F.args_dict_eq_2 _ _)) hu
  show wpAny _ _ (Builtin.Dict.dictSlotArgs "__eq__" ⟨[.ref a, .ref b], []⟩ >>= _) _ _ s
  refine wpAny_bind ?_
  unfold Builtin.Dict.dictSlotArgs
  refine wpAny_bind (wpAny_notOrdered_dict da.typeIs ?_)
  show wpAny _ _ (pure (Value.ref a, Value.ref b)) _ _ s
  refine wpAny_pure ?_
  refine wpAny_bind (wpAny_isInstance (T := "dict") db.typeIs PySem.F.sub_dict_dict ?_)
  simp only [Bool.not_true, Bool.false_eq_true, if_false]
  refine wpAny_bind (wpAny_pure (wpAny_bind (wpAny_pure ?_)))
  refine wpAny_bind (samePairsH hr ha hb da db hl hits ?_)
  refine wpAny_pure ⟨_, rfl, ?_, ?_⟩
  · exact fun x => nomatch x
  · exact h
end
def rEqD (K : PySem.W.Frag) : R2 := fun x y H Q => ∃ p q o xa xb, x = .ref p ∧ y = .ref q ∧ H p = some (DcO p xa) ∧ DKs K H xa ∧ H q = some (.frz o (DcO q xb)) ∧ DKs K H xb ∧ xa.length = xb.length ∧ (∀ x ∈ xa, ∃ (j : Nat) (b : Addr × Value) (i : Int) (t t' : Tok), xb[j]? = some (x.1, b) ∧ x.2.2 = .int i t ∧ b.2 = .int i t') ∧ Q (.bl true) H
theorem op_eqD (hu : X.A.units + 65 < cLine) : OpR X (compareOp .Eq) (rEqD X.K) := by
  intro pins s σ H x y v u Q I rx ry h
  obtain ⟨p, q, o, xa, xb, rfl, rfl, hp, d, hq, d', hl, hits, hQ⟩ := h
  cases rx
  cases ry
  obtain ⟨hd, dd⟩ := dict_of I hp d
  obtain ⟨_, hd', dd'⟩ := dict_at I hq d'
  refine eq_dictsH (room9 hu) hd hd' dd dd' (by omega) hl (fun x hx => ?_) ⟨.bl true, H, I, rfl, hQ⟩
  obtain ⟨j, b, i, t, t', hj, e1, e2⟩ := hits x hx
  refine ⟨j, b, hj, ?_⟩
  rw [e1, e2]
  have := SeqAt.EqAt.int_int (A := X.A.in1) (s := s) i t i t'
  simpa using this
@[simp] def dEqD (i j : Nat) : DE := fun r Q _ => ∃ kvs kvs', r[i]? = some (.obj (.dN kvs)) ∧ r[j]? = some (.fct (.dct kvs')) ∧ kvs.length = kvs'.length ∧ (∀ x ∈ kvs, ∃ n : Int, x.2 = .int n ∧ x ∈ kvs') ∧ Q (.bool true)
theorem fe_eqD (i j : Nat) {x y : Str} {p p2 : Pos} (hu : X.A.units + 65 < cLine) (hN : X.N[i]? = some x := by rfl) (hv : Vis X.env.scope x := by first | exact Or.inl rfl | exact Or.inr (Or.inl rfl) | exact Or.inr (Or.inr rfl)) (hd : (x == ("__debug__" : Str)) = false := by decide)
    (hcd : (x == ("__classdict__" : Str)) = false := by decide) (hN2 : X.N[j]? = some y := by rfl) (hv2 : Vis X.env.scope y := by first | exact Or.inl rfl | exact Or.inr (Or.inl rfl) | exact Or.inr (Or.inr rfl)) (hd2 : (y == ("__debug__" : Str)) = false := by decide)
    (hcd2 : (y == ("__classdict__" : Str)) = false := by decide) : FE X T E (.Compare (.Name x p) [.Eq] [.Name y p2] pos) (dEqD i j) := by
  refine FE.mk' (pe_cmpR (op_eqD hu) (pe_var hN hv hd hcd) (pe_var hN2 hv2 hd2 hcd2) (nomark _)) fun sg H Q ⟨H0, G0, r, G, Qd, Ed, h, er, ⟨kvs, kvs', hi, hj, hl, ha, q⟩, k, x⟩ => ?_
  obtain ⟨p, u, a1, a2, a3, a4, xa, eu, pr, nd, hz, gd⟩ := er.obj i _ hi
  subst eu
  obtain ⟨v, b1, p', o, xb, e, hp', pr', nd', hz', gd'⟩ := er.fct j _ hj
  subst e
  refine ⟨_, a1, _, b1, p, p', o, xa, xb, rfl, rfl, a2, dks_of pr h.sub nd gd, h.sub _ _ hp', dks_of pr' h.sub nd' gd', by rw [← paired_len pr, ← paired_len pr']; exact hl, fun x hx => ?_, k _ _ H G h.refl (.bl true) q⟩
  obtain ⟨m, hm⟩ := List.mem_iff_getElem?.mp hx
  obtain ⟨kv, hkv, e1, _, v, rv, dv⟩ := paired_atR pr hm
  obtain ⟨n, en, hmem⟩ := ha kv (List.mem_of_getElem? hkv)
  obtain ⟨j', hj'⟩ := List.mem_iff_getElem?.mp hmem
  obtain ⟨y, hy, e2, _, v', rv', dv'⟩ := paired_atL pr' hj'
  rw [en] at dv dv'
  cases dv
  cases dv'
  obtain ⟨t, ht⟩ := rv
  obtain ⟨t', ht'⟩ := rv'
  exact ⟨j', y.2, n, t, t', by rw [hy, ← e1, e2], ht, ht'⟩
end
theorem cls3_nr : ∀ n v, (n, v) ∈ cls3 → ∀ b, v ≠ V.ref b := by
  intro n v h b e
  simp only [cls3, List.mem_cons, Prod.mk.injEq, List.mem_nil_iff, or_false] at h
  rcases h with ⟨_, rfl⟩ | ⟨_, rfl⟩ | ⟨_, rfl⟩ <;> cases e
end Fd
end
section
set_option Elab.async false
set_option linter.all false
set_option maxRecDepth 100000
set_option autoImplicit false
set_option maxHeartbeats 2000000
/-! Mk: makers, in plain Lean. -/
namespace Dm
open PySem Fd
inductive Mk where
  | sums (n f m c : Nat)
  | bits (b : Nat) (ts : List Nat) (c : Nat)
  | tab (ns fs : List Nat) (c : Nat)
namespace Mk
def enc : Mk → PyData
  | sums n f m c => .tuple [.str "sums", nat n, nat f, nat m, nat c]
  | bits b ts c => .tuple [.str "bits", nat b, .tuple (nats ts), nat c]
  | tab ns fs c => .tuple [.str "table", .tuple (nats ns), .tuple (nats fs), nat c]
def size : Mk → Nat
  | sums n _ _ _ => n
  | bits b _ _ => 2 ^ b
  | tab ns _ _ => ns.length
def faces : Mk → Nat
  | sums _ _ _ c => c
  | bits _ _ c => c
  | tab _ _ c => c
def odd (ts : List Nat) (s : Nat) : Nat := (ts.map fun t => s / 2 ^ t % 2).sum % 2
def step : Mk → Nat → Nat
  | sums n f m _, s => (f * s + m) % n
  | bits b ts _, s => 2 * s % 2 ^ b + odd ts s
  | tab ns _ _, s => ns.getD s 0
def face : Mk → Nat → Nat
  | sums n _ _ c, s => s * c / n
  | bits _ _ c, s => s % c
  | tab _ fs _, s => fs.getD s 0
def Ok : Mk → Prop
  | sums n f m c => 1 ≤ n ∧ n ≤ 64 ∧ f ≤ 63 ∧ m ≤ 63 ∧ 2 ≤ c ∧ c ≤ 6
  | bits b ts c => 1 ≤ b ∧ b ≤ 6 ∧ ts ≠ [] ∧ ts.Pairwise (· < ·) ∧ (∀ t ∈ ts, t < b) ∧ 2 ≤ c ∧ c ≤ 6
  | tab ns fs c => 1 ≤ ns.length ∧ ns.length ≤ 64 ∧ fs.length = ns.length ∧ (∀ x ∈ ns, x < ns.length) ∧ (∀ y ∈ fs, y < c) ∧ 2 ≤ c ∧ c ≤ 6
variable {m : Mk}
theorem pow_le64 {b : Nat} (h : b ≤ 6) : 2 ^ b ≤ 64 := Nat.pow_le_pow_right (by decide) h
theorem Ok.size_pos (h : m.Ok) : 1 ≤ m.size := by
  cases m with
  | sums n f m c => exact h.1
  | bits b ts c => exact Nat.pow_pos (by decide)
  | tab ns fs c => exact h.1
theorem Ok.size_le (h : m.Ok) : m.size ≤ 64 := by
  cases m with
  | sums n f m c => exact h.2.1
  | bits b ts c => exact pow_le64 h.2.1
  | tab ns fs c => exact h.2.1
theorem Ok.faces_ge (h : m.Ok) : 2 ≤ m.faces := by
  cases m with
  | sums n f m c => exact h.2.2.2.2.1
  | bits b ts c => exact h.2.2.2.2.2.1
  | tab ns fs c => exact h.2.2.2.2.2.1
theorem Ok.faces_le (h : m.Ok) : m.faces ≤ 6 := by
  cases m with
  | sums n f m c => exact h.2.2.2.2.2
  | bits b ts c => exact h.2.2.2.2.2.2
  | tab ns fs c => exact h.2.2.2.2.2.2
theorem getD_mem {A : Type} {l : List A} {i : Nat} {d : A} (h : i < l.length) : l.getD i d ∈ l := by
  rw [List.getD_eq_getElem?_getD, List.getElem?_eq_getElem h]
  exact List.getElem_mem h
theorem odd_lt (ts : List Nat) (s : Nat) : odd ts s < 2 := Nat.mod_lt _ (by decide)
theorem Ok.step_lt (h : m.Ok) {s : Nat} (hs : s < m.size) : m.step s < m.size := by
  cases m with
  | sums n f m c => exact Nat.mod_lt _ h.1
  | bits b ts c =>
    show 2 * s % 2 ^ b + odd ts s < 2 ^ b
    obtain ⟨b', rfl⟩ : ∃ b', b = b' + 1 := ⟨b - 1, by have := h.1; omega⟩
    have h1 := odd_lt ts s
    have e : 2 * s % 2 ^ (b' + 1) = 2 * (s % 2 ^ b') := by rw [Nat.pow_succ, Nat.mul_comm (2 ^ b') 2, Nat.mul_mod_mul_left]
    have h2 : s % 2 ^ b' < 2 ^ b' := Nat.mod_lt _ (Nat.pow_pos (by decide))
    rw [e, Nat.pow_succ]
    omega
  | tab ns fs c => exact h.2.2.2.1 _ (getD_mem hs)
theorem Ok.face_lt (h : m.Ok) {s : Nat} (hs : s < m.size) : m.face s < m.faces := by
  cases m with
  | sums n f m c =>
    have hs : s < n := hs
    show s * c / n < c
    rw [Nat.div_lt_iff_lt_mul (by omega), Nat.mul_comm c n]
    exact Nat.mul_lt_mul_of_pos_right hs (by have := h.2.2.2.2.1; omega)
  | bits b ts c => exact Nat.mod_lt _ (by have := h.2.2.2.2.2.1; omega)
  | tab ns fs c => exact h.2.2.2.2.1 _ (getD_mem (by rw [h.2.2.1]; exact hs))
/-- the stand behind so many steps; what is drawn -/
def go (m : Mk) : Nat → Nat → Nat
  | 0, s => s
  | k + 1, s => go m k (m.step s)
def draw (m : Mk) : Nat → Nat → List Nat
  | 0, _ => []
  | k + 1, s => m.face s :: draw m k (m.step s)
theorem Ok.go_lt (h : m.Ok) : ∀ (k : Nat) {s : Nat}, s < m.size → m.go k s < m.size
  | 0, _, hs => hs
  | k + 1, _, hs => Ok.go_lt h k (h.step_lt hs)
theorem go_add (m : Mk) : ∀ (j k s : Nat), m.go (j + k) s = m.go k (m.go j s)
  | 0, k, s => by rw [Nat.zero_add]; rfl
  | j + 1, k, s => by rw [show j + 1 + k = (j + k) + 1 by omega]; exact go_add m j k (m.step s)
theorem go_succ (m : Mk) (k s : Nat) : m.go (k + 1) s = m.step (m.go k s) := by rw [go_add]; rfl
theorem draw_length (m : Mk) : ∀ (k s : Nat), (m.draw k s).length = k
  | 0, _ => rfl
  | k + 1, s => congrArg Nat.succ (draw_length m k (m.step s))
theorem draw_succ (m : Mk) : ∀ (k s : Nat), m.draw (k + 1) s = m.draw k s ++ [m.face (m.go k s)]
  | 0, _ => rfl
  | k + 1, s => by
    show m.face s :: m.draw (k + 1) (m.step s) = m.face s :: m.draw k (m.step s) ++ [m.face (m.go k (m.step s))]
    rw [draw_succ m k (m.step s)]
    rfl
theorem draw_add (m : Mk) : ∀ (j k s : Nat), m.draw (j + k) s = m.draw j s ++ m.draw k (m.go j s)
  | 0, k, s => by rw [Nat.zero_add]; rfl
  | j + 1, k, s => by
    rw [show j + 1 + k = (j + k) + 1 by omega]
    show m.face s :: m.draw (j + k) (m.step s) = m.face s :: m.draw j (m.step s) ++ m.draw k (m.go j (m.step s))
    rw [draw_add m j k (m.step s)]
    rfl
theorem Ok.draw_lt (h : m.Ok) : ∀ (k : Nat) {s : Nat}, s < m.size → ∀ x ∈ m.draw k s, x < m.faces
  | 0, _, _, x, hx => by cases hx
  | k + 1, s, hs, x, hx => by
    rcases List.mem_cons.mp hx with rfl | hx
    · exact h.face_lt hs
    · exact Ok.draw_lt h k (h.step_lt hs) x hx
/-- the same as a table -/
def toTab (m : Mk) : Mk := .tab ((List.range m.size).map m.step) ((List.range m.size).map m.face) m.faces
theorem Ok.toTab (h : m.Ok) : m.toTab.Ok := by
  have h1 := h.size_pos
  have h2 := h.size_le
  refine ⟨by simpa using h1, by simpa using h2, by simp, fun x hx => ?_, fun y hy => ?_, h.faces_ge, h.faces_le⟩
  · obtain ⟨s, hs, rfl⟩ := List.mem_map.mp hx
    have := h.step_lt (List.mem_range.mp hs)
    simpa using this
  · obtain ⟨s, hs, rfl⟩ := List.mem_map.mp hy
    exact h.face_lt (List.mem_range.mp hs)
theorem toTab_size (m : Mk) : m.toTab.size = m.size := by simp [toTab, size]
theorem toTab_step (m : Mk) {s : Nat} (h : s < m.size) : m.toTab.step s = m.step s := by
  show ((List.range m.size).map m.step).getD s 0 = m.step s
  rw [List.getD_eq_getElem?_getD]
  simp [h]
theorem toTab_face (m : Mk) {s : Nat} (h : s < m.size) : m.toTab.face s = m.face s := by
  show ((List.range m.size).map m.face).getD s 0 = m.face s
  rw [List.getD_eq_getElem?_getD]
  simp [h]
end Mk
end Dm
end
section
set_option Elab.async false
set_option linter.all false
set_option maxRecDepth 100000
set_option autoImplicit false
set_option maxHeartbeats 2000000
/-! Orb: where a maker goes round, in plain Lean. -/
namespace Dm
open Fd
theorem least {P : Nat → Prop} : (∃ n, P n) → ∃ n, P n ∧ ∀ k, k < n → ¬ P k := by
  intro ⟨n, hn⟩
  induction n using Nat.strongRecOn with
  | _ n ih =>
    by_cases h : ∃ k, k < n ∧ P k
    · obtain ⟨k, hk, pk⟩ := h
      exact ih k hk pk
    · exact ⟨n, hn, fun k hk pk => h ⟨k, hk, pk⟩⟩
open Classical in
noncomputable def lst (P : Nat → Prop) : Nat := if h : ∃ n, P n then Classical.choose (least h) else 0
theorem lst_spec {P : Nat → Prop} (h : ∃ n, P n) : P (lst P) ∧ ∀ k, k < lst P → ¬ P k := by
  unfold lst
  rw [dif_pos h]
  exact Classical.choose_spec (least h)
theorem lst_le {P : Nat → Prop} {n : Nat} (h : P n) : lst P ≤ n := by
  have := (lst_spec ⟨n, h⟩).2 n
  by_cases q : n < lst P
  · exact absurd h (this q)
  · omega
namespace Mk
variable {m : Mk} {s : Nat}
def rep (m : Mk) (s n : Nat) : Prop := ∃ i, i < n ∧ m.go i s = m.go n s
/-- steps until a stand comes again; ahead of the round; the round -/
noncomputable def wn (m : Mk) (s : Nat) : Nat := lst (m.rep s)
noncomputable def tl (m : Mk) (s : Nat) : Nat := lst fun i => m.go i s = m.go (m.wn s) s
noncomputable def rl (m : Mk) (s : Nat) : Nat := m.wn s - m.tl s
theorem rep_ex (h : m.Ok) (hs : s < m.size) : ∃ n, n ≤ m.size ∧ m.rep s n := by
  by_cases q : ∃ n, n ≤ m.size ∧ m.rep s n
  · exact q
  · exfalso
    have nd : ((List.range (m.size + 1)).map fun i => m.go i s).Nodup := by
      rw [List.Nodup, List.pairwise_map]
      refine List.Pairwise.imp_of_mem ?_ (List.pairwise_lt_range (n := m.size + 1))
      intro i j hi hj hlt e
      exact q ⟨j, by have := List.mem_range.mp hj; omega, i, hlt, e⟩
    have := nodup_le m.size _ nd fun x hx => by
      obtain ⟨i, _, rfl⟩ := List.mem_map.mp hx
      exact h.go_lt i hs
    simp at this
    omega
theorem wn_rep (h : m.Ok) (hs : s < m.size) : m.rep s (m.wn s) ∧ ∀ k, k < m.wn s → ¬ m.rep s k := by
  obtain ⟨n, _, hn⟩ := rep_ex h hs
  exact lst_spec ⟨n, hn⟩
theorem wn_le (h : m.Ok) (hs : s < m.size) : m.wn s ≤ m.size := by
  obtain ⟨n, hl, hn⟩ := rep_ex h hs
  exact Nat.le_trans (lst_le hn) hl
theorem tl_go_wn (h : m.Ok) (hs : s < m.size) : m.go (m.tl s) s = m.go (m.wn s) s := by
  obtain ⟨i, _, e⟩ := (wn_rep h hs).1
  exact (lst_spec (P := fun i => m.go i s = m.go (m.wn s) s) ⟨i, e⟩).1
theorem tl_lt (h : m.Ok) (hs : s < m.size) : m.tl s < m.wn s := by
  obtain ⟨i, hi, e⟩ := (wn_rep h hs).1
  exact Nat.lt_of_le_of_lt (lst_le (P := fun i => m.go i s = m.go (m.wn s) s) e) hi
theorem rl_pos (h : m.Ok) (hs : s < m.size) : 1 ≤ m.rl s := by have := tl_lt h hs; unfold rl; omega
theorem tl_rl (h : m.Ok) (hs : s < m.size) : m.tl s + m.rl s = m.wn s := by have := tl_lt h hs; unfold rl; omega
theorem tl_rl_le (h : m.Ok) (hs : s < m.size) : m.tl s + m.rl s ≤ m.size := by rw [tl_rl h hs]; exact wn_le h hs
theorem go_per (h : m.Ok) (hs : s < m.size) {i : Nat} (hi : m.tl s ≤ i) : m.go (i + m.rl s) s = m.go i s := by
  obtain ⟨a, rfl⟩ : ∃ a, i = m.tl s + a := ⟨i - m.tl s, by omega⟩
  rw [show m.tl s + a + m.rl s = (m.tl s + m.rl s) + a by omega, tl_rl h hs, go_add, ← tl_go_wn h hs, ← go_add]
theorem go_mul (h : m.Ok) (hs : s < m.size) {i : Nat} (hi : m.tl s ≤ i) : ∀ q, m.go (i + q * m.rl s) s = m.go i s
  | 0 => by simp
  | q + 1 => by
    rw [Nat.succ_mul, ← Nat.add_assoc, go_per h hs (by omega), go_mul h hs hi q]
theorem go_red (h : m.Ok) (hs : s < m.size) {i : Nat} (hi : m.tl s ≤ i) : m.go i s = m.go (m.tl s + (i - m.tl s) % m.rl s) s := by
  have e : i = (m.tl s + (i - m.tl s) % m.rl s) + (i - m.tl s) / m.rl s * m.rl s := by
    have := Nat.div_add_mod (i - m.tl s) (m.rl s)
    rw [Nat.mul_comm] at this
    omega
  have := go_mul h hs (i := m.tl s + (i - m.tl s) % m.rl s) (by omega) ((i - m.tl s) / m.rl s)
  rw [← e] at this
  exact this
theorem inj_low (h : m.Ok) (hs : s < m.size) {i j : Nat} (hi : i < m.wn s) (hj : j < m.wn s) (e : m.go i s = m.go j s) : i = j := by
  rcases Nat.lt_trichotomy i j with q | q | q
  · exact absurd ⟨i, q, e⟩ ((wn_rep h hs).2 j hj)
  · exact q
  · exact absurd ⟨j, q, e.symm⟩ ((wn_rep h hs).2 i hi)
theorem orb (h : m.Ok) (hs : s < m.size) {i j : Nat} (hij : i < j) : m.go i s = m.go j s ↔ m.tl s ≤ i ∧ m.rl s ∣ j - i := by
  have hr := rl_pos h hs
  have htr := tl_rl h hs
  constructor
  · intro e
    have hj : m.wn s ≤ j := by
      by_cases q : j < m.wn s
      · exact absurd ⟨i, hij, e⟩ ((wn_rep h hs).2 j q)
      · omega
    have ej := go_red h hs (i := j) (by omega)
    have lj : (j - m.tl s) % m.rl s < m.rl s := Nat.mod_lt _ hr
    by_cases hi : m.tl s ≤ i
    · refine ⟨hi, ?_⟩
      have ei := go_red h hs hi
      have li : (i - m.tl s) % m.rl s < m.rl s := Nat.mod_lt _ hr
      have := inj_low h hs (i := m.tl s + (i - m.tl s) % m.rl s) (j := m.tl s + (j - m.tl s) % m.rl s) (by omega) (by omega) (by rw [← ei, ← ej]; exact e)
      have e2 : (j - m.tl s) % m.rl s = (i - m.tl s) % m.rl s := by omega
      have := Nat.sub_mod_eq_zero_of_mod_eq e2
      rw [show j - m.tl s - (i - m.tl s) = j - i by omega] at this
      exact Nat.dvd_of_mod_eq_zero this
    · exfalso
      have := inj_low h hs (i := i) (j := m.tl s + (j - m.tl s) % m.rl s) (by omega) (by omega) (by rw [← ej]; exact e)
      omega
  · rintro ⟨hi, q, e⟩
    rw [show j = i + q * m.rl s by rw [Nat.mul_comm]; omega]
    exact (go_mul h hs hi q).symm
theorem uniq (h : m.Ok) (hs : s < m.size) {t l : Nat} (hl : 1 ≤ l) (H : ∀ i j, i < j → (m.go i s = m.go j s ↔ t ≤ i ∧ l ∣ j - i)) : m.tl s = t ∧ m.rl s = l := by
  have hr := rl_pos h hs
  have h1 := (H (m.tl s) (m.tl s + m.rl s) (by omega)).mp (go_per h hs (Nat.le_refl _)).symm
  have h2 := (orb h hs (i := t) (j := t + l) (by omega)).mp ((H t (t + l) (by omega)).mpr ⟨Nat.le_refl _, by rw [show t + l - t = l by omega]; exact Nat.dvd_refl _⟩)
  rw [show m.tl s + m.rl s - m.tl s = m.rl s by omega] at h1
  rw [show t + l - t = l by omega] at h2
  exact ⟨Nat.le_antisymm h2.1 h1.1, Nat.dvd_antisymm h2.2 h1.2⟩
theorem tl_go (h : m.Ok) (hs : s < m.size) (k : Nat) : m.tl (m.go k s) = m.tl s - k ∧ m.rl (m.go k s) = m.rl s := by
  refine uniq h (h.go_lt k hs) (rl_pos h hs) fun i j hij => ?_
  rw [← go_add, ← go_add, orb h hs (by omega), show k + j - (k + i) = j - i by omega]
  constructor
  · rintro ⟨a, b⟩; exact ⟨by omega, b⟩
  · rintro ⟨a, b⟩; exact ⟨by omega, b⟩
theorem tl0_iff (h : m.Ok) (hs : s < m.size) : m.tl s = 0 ↔ ∃ k, 1 ≤ k ∧ m.go k s = s := by
  constructor
  · intro e
    refine ⟨m.rl s, rl_pos h hs, ?_⟩
    have := go_per h hs (i := 0) (by omega)
    rwa [Nat.zero_add] at this
  · rintro ⟨k, hk, e⟩
    have := ((orb h hs (i := 0) (j := k) (by omega)).mp e.symm).1
    omega
/-- the round, from a stand of it -/
noncomputable def cyc (m : Mk) (s : Nat) : List Nat := (List.range (m.rl s)).map fun k => m.go k s
theorem cyc_length (m : Mk) (s : Nat) : (m.cyc s).length = m.rl s := by simp [cyc]
theorem mem_cyc (h : m.Ok) (hs : s < m.size) (h0 : m.tl s = 0) {x : Nat} : x ∈ m.cyc s ↔ ∃ k, m.go k s = x := by
  constructor
  · intro q
    obtain ⟨k, _, e⟩ := List.mem_map.mp q
    exact ⟨k, e⟩
  · rintro ⟨k, rfl⟩
    have := go_red h hs (i := k) (by omega)
    rw [h0] at this
    simp only [Nat.zero_add, Nat.sub_zero] at this
    rw [this]
    exact List.mem_map.mpr ⟨_, List.mem_range.mpr (Nat.mod_lt _ (rl_pos h hs)), rfl⟩
theorem cyc_lt (h : m.Ok) (hs : s < m.size) {x : Nat} (hx : x ∈ m.cyc s) : x < m.size := by
  obtain ⟨k, _, rfl⟩ := List.mem_map.mp hx
  exact h.go_lt k hs
theorem cyc_tl (h : m.Ok) (hs : s < m.size) (h0 : m.tl s = 0) {x : Nat} (hx : x ∈ m.cyc s) : m.tl x = 0 ∧ m.rl x = m.rl s := by
  obtain ⟨k, _, rfl⟩ := List.mem_map.mp hx
  have := tl_go h hs k
  rw [h0] at this
  simpa using this
theorem self_cyc (h : m.Ok) (hs : s < m.size) : s ∈ m.cyc s := List.mem_map.mpr ⟨0, List.mem_range.mpr (rl_pos h hs), rfl⟩
theorem cyc_symm (h : m.Ok) (hs : s < m.size) (h0 : m.tl s = 0) {x : Nat} (hx : x ∈ m.cyc s) : s ∈ m.cyc x := by
  have hx0 := cyc_tl h hs h0 hx
  have hxl := cyc_lt h hs hx
  obtain ⟨k, _, rfl⟩ := List.mem_map.mp hx
  refine (mem_cyc h hxl hx0.1).mpr ⟨k * m.rl s - k, ?_⟩
  have hr := rl_pos h hs
  have hk : k ≤ k * m.rl s := Nat.le_mul_of_pos_right k hr
  rw [← go_add, show k + (k * m.rl s - k) = 0 + k * m.rl s by omega, go_mul h hs (by omega)]
  rfl
theorem cyc_sub (h : m.Ok) (hs : s < m.size) (h0 : m.tl s = 0) {x y : Nat} (hx : x ∈ m.cyc s) (hy : y ∈ m.cyc x) : y ∈ m.cyc s := by
  obtain ⟨k, _, rfl⟩ := List.mem_map.mp hx
  obtain ⟨j, _, rfl⟩ := List.mem_map.mp hy
  exact (mem_cyc h hs h0).mpr ⟨k + j, go_add m k j s⟩
theorem cyc_nodup (h : m.Ok) (hs : s < m.size) (h0 : m.tl s = 0) : (m.cyc s).Nodup := by
  have hw := tl_rl h hs
  rw [cyc, List.Nodup, List.pairwise_map]
  refine List.Pairwise.imp_of_mem ?_ (List.pairwise_lt_range (n := m.rl s))
  intro i j hi hj hlt e
  have hi := List.mem_range.mp hi
  have hj := List.mem_range.mp hj
  have := inj_low h hs (i := i) (j := j) (by omega) (by omega) e
  omega
/-- the least stand of its round -/
noncomputable def headB (m : Mk) (s : Nat) : Bool := decide (m.tl s = 0) && (m.cyc s).all fun x => decide (s ≤ x)
theorem head_iff {m : Mk} {s : Nat} : m.headB s = true ↔ m.tl s = 0 ∧ ∀ x ∈ m.cyc s, s ≤ x := by simp [headB]
theorem min_mem : ∀ {l : List Nat}, l ≠ [] → ∃ x ∈ l, ∀ y ∈ l, x ≤ y
  | [a], _ => ⟨a, List.mem_cons_self .., fun y hy => by simp at hy; omega⟩
  | a :: b :: l, _ => by
    obtain ⟨x, hx, hm⟩ := min_mem (l := b :: l) (by simp)
    by_cases q : a ≤ x
    · refine ⟨a, List.mem_cons_self .., fun y hy => ?_⟩
      rcases List.mem_cons.mp hy with rfl | hy
      · exact Nat.le_refl _
      · exact Nat.le_trans q (hm y hy)
    · refine ⟨x, List.mem_cons_of_mem _ hx, fun y hy => ?_⟩
      rcases List.mem_cons.mp hy with rfl | hy
      · omega
      · exact hm y hy
/-- each stand of a round has a head -/
theorem head_ex (h : m.Ok) (hs : s < m.size) (h0 : m.tl s = 0) : ∃ x, x < m.size ∧ m.headB x = true ∧ s ∈ m.cyc x ∧ x ≤ s := by
  have hself := self_cyc h hs
  obtain ⟨x, hx, hm⟩ := min_mem (l := m.cyc s) (fun e => by rw [e] at hself; cases hself)
  refine ⟨x, cyc_lt h hs hx, head_iff.mpr ⟨(cyc_tl h hs h0 hx).1, fun y hy => hm y (cyc_sub h hs h0 hx hy)⟩, cyc_symm h hs h0 hx, hm s hself⟩
theorem head_uniq (h : m.Ok) {x y : Nat} (hx : x < m.size) (hy : y < m.size) (bx : m.headB x = true) (by' : m.headB y = true) {z : Nat} (zx : z ∈ m.cyc x) (zy : z ∈ m.cyc y) : x = y := by
  obtain ⟨x0, mx⟩ := head_iff.mp bx
  obtain ⟨y0, my⟩ := head_iff.mp by'
  have hz0 := cyc_tl h hx x0 zx
  have hz := cyc_lt h hx zx
  have xz := cyc_symm h hx x0 zx
  have yz := cyc_symm h hy y0 zy
  have h1 := mx y (cyc_sub h hx x0 zx yz)
  have h2 := my x (cyc_sub h hy y0 zy xz)
  omega
noncomputable def heads (m : Mk) (n : Nat) : List Nat := (List.range n).filter m.headB
/-- s is a head just if no head below has it in its round -/
theorem head_step (h : m.Ok) (hs : s < m.size) (h0 : m.tl s = 0) : m.headB s = true ↔ ¬ ∃ x ∈ m.heads s, s ∈ m.cyc x := by
  constructor
  · rintro b ⟨x, hx, sx⟩
    obtain ⟨hxl, bx⟩ := List.mem_filter.mp hx
    have hxl := List.mem_range.mp hxl
    have := head_uniq h (by omega) hs bx b sx (self_cyc h hs)
    omega
  · intro q
    obtain ⟨x, hx, bx, sx, le⟩ := head_ex h hs h0
    by_cases e : x = s
    · rw [← e]; exact bx
    · exact absurd ⟨x, List.mem_filter.mpr ⟨List.mem_range.mpr (by omega), bx⟩, sx⟩ q
theorem heads_succ (m : Mk) (n : Nat) : m.heads (n + 1) = m.heads n ++ (if m.headB n = true then [n] else []) := by
  rw [heads, List.range_succ, List.filter_append]
  by_cases q : m.headB n = true
  · simp [q, heads]
  · simp [q, heads]
theorem mem_heads {m : Mk} {n x : Nat} : x ∈ m.heads n ↔ x < n ∧ m.headB x = true := by simp [heads]
/-- all rounds -/
noncomputable def rds (m : Mk) : List (List Nat) := (m.heads m.size).map m.cyc
theorem heads_pw (m : Mk) (n : Nat) : (m.heads n).Pairwise (· < ·) := (List.pairwise_lt_range).filter _
/-- the heads whose round has s -/
theorem inside (h : m.Ok) (hs : s < m.size) : (m.tl s = 0 → ∃ x, (m.heads m.size).filter (fun x => decide (s ∈ m.cyc x)) = [x] ∧ x < m.size ∧ m.headB x = true ∧ s ∈ m.cyc x) ∧ (m.tl s ≠ 0 → (m.heads m.size).filter (fun x => decide (s ∈ m.cyc x)) = []) := by
  constructor
  · intro h0
    obtain ⟨x, hx, bx, sx, _⟩ := head_ex h hs h0
    refine ⟨x, ?_, hx, bx, sx⟩
    have hpw := (heads_pw m m.size).filter (fun x => decide (s ∈ m.cyc x))
    have hall : ∀ y ∈ (m.heads m.size).filter (fun x => decide (s ∈ m.cyc x)), y = x := fun y hy => by
      obtain ⟨h1, h2⟩ := List.mem_filter.mp hy
      obtain ⟨h3, h4⟩ := mem_heads.mp h1
      exact head_uniq h h3 hx h4 bx (of_decide_eq_true h2) sx
    have hmem : x ∈ (m.heads m.size).filter (fun x => decide (s ∈ m.cyc x)) := List.mem_filter.mpr ⟨mem_heads.mpr ⟨hx, bx⟩, decide_eq_true sx⟩
    generalize (m.heads m.size).filter (fun x => decide (s ∈ m.cyc x)) = l at *
    match l, hpw, hall, hmem with
    | [], _, _, hmem => cases hmem
    | [a], _, hall, _ => rw [hall a (List.mem_cons_self ..)]
    | a :: b :: l, hpw, hall, _ =>
      have h1 := hall a (List.mem_cons_self ..)
      have h2 := hall b (by simp)
      have h3 := (List.pairwise_cons.mp hpw).1 b (List.mem_cons_self ..)
      omega
  · intro h0
    refine List.filter_eq_nil_iff.mpr fun x hx hd => h0 ?_
    obtain ⟨h3, h4⟩ := mem_heads.mp hx
    exact (cyc_tl h h3 (head_iff.mp h4).1 (of_decide_eq_true hd)).1
theorem heads_ne (h : m.Ok) : m.heads m.size ≠ [] := by
  have h0 : 0 < m.size := h.size_pos
  have e := (tl_go h h0 (m.tl 0)).1
  obtain ⟨x, hx, bx, _⟩ := head_ex h (h.go_lt (m.tl 0) h0) (by omega)
  intro e
  have := mem_heads.mpr ⟨hx, bx⟩
  rw [e] at this
  cases this
theorem flat_nodup (h : m.Ok) : ∀ {l : List Nat}, l.Pairwise (· < ·) → (∀ x ∈ l, x < m.size ∧ m.headB x = true) → ((l.map m.cyc).flatten).Nodup
  | [], _, _ => by simp
  | x :: l, hp, hl => by
    obtain ⟨h1, h2⟩ := List.pairwise_cons.mp hp
    have hx := hl x (List.mem_cons_self ..)
    rw [List.map_cons, List.flatten_cons, List.nodup_append]
    refine ⟨cyc_nodup h hx.1 (head_iff.mp hx.2).1, flat_nodup h h2 fun y hy => hl y (List.mem_cons_of_mem _ hy), fun a ha b hb e => ?_⟩
    subst e
    obtain ⟨r, hr, hb⟩ := List.mem_flatten.mp hb
    obtain ⟨y, hy, rfl⟩ := List.mem_map.mp hr
    have hy2 := hl y (List.mem_cons_of_mem _ hy)
    have := head_uniq h hx.1 hy2.1 hx.2 hy2.2 ha hb
    have := h1 y hy
    omega
theorem sum_len : ∀ l : List (List Nat), (l.map List.length).sum = l.flatten.length := fun l => by rw [List.length_flatten]
theorem rds_sum (h : m.Ok) : ((m.rds).map List.length).sum ≤ m.size := by
  rw [sum_len]
  refine nodup_le m.size _ (flat_nodup h (heads_pw m m.size) fun x hx => mem_heads.mp hx) fun x hx => ?_
  obtain ⟨r, hr, hx⟩ := List.mem_flatten.mp hx
  obtain ⟨y, hy, rfl⟩ := List.mem_map.mp hr
  exact cyc_lt h (mem_heads.mp hy).1 hx
end Mk
end Dm
end
section
set_option Elab.async false
set_option linter.all false
set_option maxRecDepth 100000
set_option autoImplicit false
set_option maxHeartbeats 4000000
/-! Pre: plain lemmas that the laws share. -/
namespace Dm
open PySem L2 Fd
theorem CM.small {i j : Int} (h : i.natAbs < 2 ^ 64) : CM i j := .inl (.inl ⟨by omega, by omega⟩)
theorem CM.small2 {i j : Int} (h : j.natAbs < 2 ^ 64) : CM i j := .inl (.inr ⟨by omega, by omega⟩)
theorem foldl_pow (b : Int) : ∀ (ds : List PyData) (s : Int), ds.foldl (fun (s : Int) (_ : PyData) => s * b) s = s * b ^ ds.length
  | [], s => by simp
  | d :: ds, s => by
    rw [List.foldl_cons, foldl_pow b ds, List.length_cons, Int.pow_succ, Int.mul_assoc, Int.mul_comm b]
theorem CDivW.small {i j : Int} (h : 0 < j) (h2 : j < 2 ^ 64) : CDivW i j := wide_div (b := 64) h (by omega) (by decide) (by decide)
theorem sum_cast (l : List Nat) : (l.map fun (n : Nat) => (n : Int)).sum = ((l.sum : Nat) : Int) := by
  induction l with
  | nil => rfl
  | cons a l ih => simp [ih]
def sumsB : List PyData → Bool
  | [_, a, b, c, d] => wholeB 1 64 a && (wholeB 2 6 d && (wholeB 0 63 b && wholeB 0 63 c))
  | _ => false
/-- rising, one above the other -/
def riseB : List Int → Bool
  | a :: b :: l => decide (a < b) && riseB (b :: l)
  | _ => true
def bitsB : List PyData → Bool
  | [_, b, .tuple ts, c] => wholeB 1 6 b && (wholeB 2 6 c && (!ts.isEmpty && (ts.all (wholeB 0 ((match b with | .int i => i | _ => 0) - 1)) && riseB (ts.map fun d => match d with | .int i => i | _ => 0))))
  | _ => false
theorem zip_rise : ∀ ns : List Int, ((ns.dropLast.zip (ns.drop 1)).all fun p => decide (p.1 < p.2)) = riseB ns
  | [] => rfl
  | [a] => rfl
  | a :: b :: l => by
    have ih := zip_rise (b :: l)
    simp only [List.drop_succ_cons, List.drop_zero] at ih ⊢
    rw [List.dropLast_cons_of_ne_nil (by simp), List.zip_cons_cons, List.all_cons, ih, riseB]
theorem cut_last {A : Type} (l : List A) : cutD l none (some (-1)) = l.dropLast := by
  unfold cutD HT.sIx
  simp
  rw [List.dropLast_eq_take]
  congr 1
  omega
theorem cut_tail {A : Type} (l : List A) : cutD l (some 1) none = l.drop 1 := by
  unfold cutD HT.sIx
  simp
  cases l with
  | nil => simp
  | cons a l => simp
def tableB : List PyData → Bool
  | [_, .tuple ns, .tuple fs, c] => wholeB 2 6 c && (decide (1 ≤ ns.length) && (decide (ns.length ≤ 64) && (decide (fs.length = ns.length) && (ns.all (wholeB 0 (ns.length - 1)) && fs.all (wholeB 0 ((match c with | .int i => i | _ => 0) - 1))))))
  | _ => false
def isMk : PyData → Bool
  | .tuple (.str x :: r) => if x = "sums" then sumsB (.str x :: r) else if x = "bits" then bitsB (.str x :: r) else decide (x = "table") && tableB (.str x :: r)
  | _ => false
theorem eqv_str (x y : Str) : PyData.eqv (.str x) (.str y) = decide (x = y) := by
  simp [PyData.eqv]
  exact Bool.beq_eq_decide_eq x y
theorem shaped_str {x : Str} (h : PyData.strOk x = true) : SeqAt.shaped (.str x) = true := shaped_of (by simpa [PyData.canLay0] using h) (by simp [PyData.depth])
theorem size_line {m : Mk} (h : m.Ok) : m.size ≤ sizeLine := by have := h.size_le; rw [line]; omega
theorem b62_nat {n : Nat} (h : n ≤ 16777216) : b62 (n : Int) := ⟨by omega, by omega⟩
/-- the map of j steps, as data -/
def gomap (m : Mk) (j : Nat) : List PyData := nats ((List.range m.size).map (m.go j))
theorem map_go {m : Mk} (h : m.Ok) (j : Nat) {s : Nat} (hs : s < m.size) : atI (gomap m j) (s : Int) = some (nat (m.go j s)) := by
  unfold gomap
  rw [nats_at (by simpa using hs)]
  simp [List.getD_eq_getElem?_getD, hs]
theorem behind_lc {m : Mk} (h : m.Ok) (j : Nat) {s k y : Sl} {Q : List PyData → Prop} : dLcGo (dgName 5) dYes (dOp dIx (dVar 3) (dVar 5)) [.dat m.enc, s, k, .dat (.list (gomap m j)), y, .no] Q (gomap m j) [] ↔ Q (gomap m (j + j)) := by
  have e : gomap m (j + j) = ((List.range m.size).map (m.go j)).map (fun x => nat (m.go j x)) := by
    simp [gomap, nats, List.map_map, Function.comp_def, Mk.go_add]
  rw [e]
  have := lc_nats (i := 5) (te := dOp dIx (dVar 3) (dVar 5)) (r := [.dat m.enc, s, k, .dat (.list (gomap m j)), y, .no]) (Q := Q) (fun x => nat (m.go j x)) (l := (List.range m.size).map (m.go j)) (fun x hx Q2 => by
    obtain ⟨t, ht, rfl⟩ := List.mem_map.mp hx
    have hlt := h.go_lt j (List.mem_range.mp ht)
    have e := map_go h j hlt
    simp [e])
  exact this
theorem go_odd (m : Mk) (j k s : Nat) (h : k % 2 = 1) : m.go ((j + j) * (k / 2)) (m.go j s) = m.go (j * k) s := by
  rw [← Mk.go_add]
  congr 1
  have hk : k = 2 * (k / 2) + 1 := by omega
  generalize k / 2 = q at hk
  subst hk
  rw [Nat.mul_add, Nat.add_mul, Nat.mul_left_comm]
  omega
theorem go_even (m : Mk) (j k s : Nat) (h : ¬ k % 2 = 1) : m.go ((j + j) * (k / 2)) s = m.go (j * k) s := by
  congr 1
  have hk : k = 2 * (k / 2) := by omega
  generalize k / 2 = q at hk
  subst hk
  rw [Nat.add_mul, Nat.mul_left_comm]
  omega
theorem behind_loop {m : Mk} (h : m.Ok) {Q : PyData → Prop} {E : Value → Prop} {X : Ev → Prop} {ct bk : Ev → Prop} {y1 : Sl} (hX : ∀ d1 d2 : Sl, ∀ s', X [.dat m.enc, .dat (nat s'), d1, d2, y1, .no] ↔ Q (nat s')) : ∀ (n k j s : Nat), s < m.size →
    ((dWl (dTest (dOp dGt (dVar 2) (dC (.int 0)))) (dThen (dIf (dTest (dOp dEq (dOp dMod (dVar 2) (dC (.int 2))) (dC (.int 1)))) (dSet 1 (dOp dIx (dVar 3) (dVar 1))) dNext)
      (dThen (dSet 3 (dAsL (dLc (dIt (dVar 3)) (dgName 5) dYes (dOp dIx (dVar 3) (dVar 5)) [5]))) (dSet 2 (dOp dDiv (dVar 2) (dC (.int 2)))))) n
      { nx := X, rt := Q, ex := E, ct := ct, bk := bk } [.dat m.enc, .dat (nat s), .dat (nat k), .dat (.list (gomap m j)), y1, .no]) ↔ (2 * k < 2 ^ n ∧ 0 < n ∧ Q (nat (m.go (j * k) s)))) := by
  intro n
  induction n with
  | zero =>
    intro k j s hs
    simp [dWl]
  | succ n ih =>
    intro k j s hs
    by_cases hk0 : k = 0
    · subst hk0
      rw [dWl]
      generalize dWl _ _ n = W
      have hp : 0 < 2 ^ (n + 1) := Nat.pow_pos (by decide)
      simp [hX, hp]
      rfl
    · have hpos : 0 < k := by omega
      have e1 : ((k : Int) % 2 = 1) ↔ k % 2 = 1 := by omega
      have ed : (k : Int) / 2 = ((k / 2 : Nat) : Int) := by omega
      have hd : CDivW (k : Int) 2 := CDivW.small (by decide) (by decide)
      have hlen : (gomap m j).length ≤ sizeLine := by simp [gomap]; exact size_line h
      have hn : (2 * k < 2 ^ (n + 1) ∧ 0 < n + 1) ↔ (2 * (k / 2) < 2 ^ n ∧ 0 < n) := by
        rw [Nat.pow_succ]
        cases n with
        | zero => constructor
                  · rintro ⟨a, _⟩; simp at a; omega
                  · rintro ⟨_, b⟩; omega
        | succ n => rw [Nat.pow_succ]; omega
      rw [← and_assoc, hn, and_assoc, dWl]
      by_cases hodd : k % 2 = 1
      · have ih' := ih (k / 2) (j + j) (m.go j s) (h.go_lt j hs)
        rw [go_odd m j k s hodd] at ih'
        rw [← ih']
        generalize dWl _ _ n = W
        simp [hpos, e1, hodd, hd, map_go h j hs, behind_lc h, wipeD, hlen]
        rw [ed]
      · have ih' := ih (k / 2) (j + j) s hs
        rw [go_even m j k s hodd] at ih'
        rw [← ih']
        generalize dWl _ _ n = W
        simp [hpos, e1, hodd, hd, behind_lc h, wipeD, hlen]
        rw [ed]
theorem wl_more {c : DT} {b : DS} {D : DEnds} {r : Ev} {P : Prop} {n0 : Nat} (h : ∀ n, n0 ≤ n → (dWl c b n D r ↔ P)) (hz : ∀ n, n < n0 → dWl c b n D r → P) : dWhile c b D r ↔ P := by
  constructor
  · rintro ⟨n, hn⟩
    by_cases q : n0 ≤ n
    · exact (h n q).mp hn
    · exact hz n (by omega) hn
  · intro p
    exact ⟨n0, (h n0 (Nat.le_refl _)).mpr p⟩
/-- what a script's k-th cell mixes to -/
def mixed (ns : List Int) (k : Nat) : Nat :=
  let d := (ns.getD k 0 + 7919 * k + 1) * 48271 % 2147483647
  ((d * d + 7 * d + k) % 2147483629).toNat
theorem mixed_lt (ns : List Int) (k : Nat) : mixed ns k < 2147483629 := by unfold mixed; simp only; omega
def ldraw (n k : Nat) : Nat :=
  let d := (n + 104729 * k + 17) * 69621 % 2147483647
  (d * d + 3 * d + k) % 2147483629
theorem ldraw_lt (n k : Nat) : ldraw n k < 2147483629 := Nat.mod_lt _ (by decide)
theorem pow6 {t : Nat} (h : t < 6) {Q : PyData → Prop} : (∃ d, atI [PyData.int 1, .int 2, .int 4, .int 8, .int 16, .int 32] (t : Int) = some d ∧ Q d) ↔ Q (nat (2 ^ t)) := by
  have : t = 0 ∨ t = 1 ∨ t = 2 ∨ t = 3 ∨ t = 4 ∨ t = 5 := by omega
  rcases this with rfl | rfl | rfl | rfl | rfl | rfl <;> simp [nat]
theorem odd_fold (s : Nat) : ∀ (ts : List Nat) (a : Nat), ts.foldl (fun a t => (a + s / 2 ^ t) % 2) a % 2 = (a + (ts.map fun t => s / 2 ^ t % 2).sum) % 2
  | [], a => by simp
  | t :: ts, a => by
    rw [List.foldl_cons, odd_fold s ts, List.map_cons, List.sum_cons]
    omega
/-- how many stands the law's own maker may have -/
def lmX (most : Nat) : Nat := if most < 16 then 2 else if most < 32 then 4 else 6
def lmBound (most : Nat) : Nat := max most (2 ^ lmX most)
theorem lm_at {most : Nat} : atI [PyData.int 2, PyData.int 4, PyData.int 6] (if (most : Int) / 16 < 2 then (most : Int) / 16 else 2) = some (nat (lmX most)) := by
  unfold lmX
  by_cases h1 : most < 16
  · rw [if_pos (by omega), show (most : Int) / 16 = 0 by omega, if_pos h1]; rfl
  · by_cases h2 : most < 32
    · rw [if_pos (by omega), show (most : Int) / 16 = 1 by omega, if_neg h1, if_pos h2]; rfl
    · rw [if_neg (by omega), if_neg h1, if_neg h2]; rfl
theorem pow64 {t : Nat} (h : t < 6) {Q : PyData → Prop} : (∃ d, atI [PyData.int 64, .int 128, .int 256, .int 512, .int 1024, .int 2048] (t : Int) = some d ∧ Q d) ↔ Q (nat (64 * 2 ^ t)) := by
  have : t = 0 ∨ t = 1 ∨ t = 2 ∨ t = 3 ∨ t = 4 ∨ t = 5 := by omega
  rcases this with rfl | rfl | rfl | rfl | rfl | rfl <;> simp [nat]
theorem range_pw (n : Nat) : (List.range n).Pairwise (· < ·) := List.pairwise_lt_range
theorem perm_nats {out : List Int} {b : Nat} (h : out.Perm (rngI b)) : ∃ l : List Nat, out.map PyData.int = nats l ∧ l.Perm (List.range b) := by
  refine ⟨out.map Int.toNat, ?_, ?_⟩
  · rw [nats, List.map_map]
    apply List.map_congr_left
    intro x hx
    have := h.mem_iff.mp hx
    unfold rngI at this
    obtain ⟨i, _, rfl⟩ := List.mem_map.mp this
    simp [nat]
  · have h2 := h.map Int.toNat
    have e : (rngI b).map Int.toNat = List.range b := by
      unfold rngI
      rw [List.map_map]
      have : (Int.toNat ∘ fun (i : Nat) => (i : Int)) = id := by funext i; simp
      rw [this]
      simp
    rw [e] at h2
    exact h2
theorem lc_call2 {f : List PyData → M PyData} {i j n : Nat} {r : Ev} {d0 : PyData} {Q : List PyData → Prop} (g : Nat → Nat) (hi : (r.set j .no)[i]? = some (.dat d0)) (hj' : (r[j]?).isSome = true) (h : ∀ x < n, ∀ (Q : PyData → Prop) (E : Value → Prop), f [d0, nat x] Q E ↔ Q (nat (g x))) :
    dLcGo (dgName j) dYes (dCall f (dCons (dVar i) (dCons (dVar j) dNil))) r Q (nats (List.range n)) [] ↔ Q (nats ((List.range n).map g)) := by
  have hj : j < r.length := by
    by_cases q : j < r.length
    · exact q
    · rw [List.getElem?_eq_none (by omega)] at hj'; cases hj'
  have hij : j ≠ i := by
    rintro rfl
    rw [List.getElem?_set_self hj] at hi
    cases hi
  rw [lc_nats (fun x => nat (g x)) (fun x hx Q1 => by
    have e1 : (r.set j (.dat (nat x)))[i]? = some (.dat d0) := by rw [List.getElem?_set_ne hij] at hi ⊢; exact hi
    have e2 : (r.set j (.dat (nat x)))[j]? = some (.dat (nat x)) := List.getElem?_set_self hj
    simp only [dCall, dCons, dVar, dNil]
    simp [e1, e2, h x (List.mem_range.mp hx)])]
  rw [nats, List.map_map]
  rfl
theorem strOk_sums : PyData.strOk "sums" = true := by decide +kernel
theorem strOk_bits : PyData.strOk "bits" = true := by decide +kernel
theorem strOk_table : PyData.strOk "table" = true := by decide +kernel
theorem riseB_nats : ∀ {l : List Nat}, l.Pairwise (· < ·) → riseB (l.map fun (n : Nat) => (n : Int)) = true
  | [], _ => by simp [riseB]
  | [a], _ => by simp [riseB]
  | a :: b :: l, h => by
    have h2 := List.pairwise_cons.mp h
    have h3 := h2.1 b (List.mem_cons_self ..)
    have ih := riseB_nats h2.2
    simp only [List.map_cons] at ih
    simp [riseB, h3, ih]
theorem isMk_enc {m : Mk} (h : m.Ok) : isMk m.enc = true := by
  cases m with
  | sums n f m c =>
    obtain ⟨h1, h2, h3, h4, h5, h6⟩ := h
    simp [Mk.enc, isMk, sumsB, wholeB]
    omega
  | bits b ts c =>
    obtain ⟨h1, h2, h3, h4, h5, h6, h7⟩ := h
    have e : ("bits" : Str) ≠ "sums" := by decide
    have hall : (nats ts).all (wholeB 0 ((b : Int) - 1)) = true := by
      simp [nats, wholeB]
      intro t ht
      have := h5 t ht
      omega
    have hr : riseB ((nats ts).map fun d => match d with | .int i => i | _ => 0) = true := by
      rw [nats, List.map_map]
      exact riseB_nats h4
    have hne : (nats ts).isEmpty = false := by cases ts <;> simp at h3 ⊢
    simp only [Mk.enc, isMk, bitsB, if_neg e, if_true, hall, hr, hne]
    simp [wholeB]
    omega
  | tab ns fs c =>
    obtain ⟨h1, h2, h3, h4, h5, h6, h7⟩ := h
    have e : ("table" : Str) ≠ "sums" := by decide
    have e2 : ("table" : Str) ≠ "bits" := by decide
    have hall : (nats ns).all (wholeB 0 ((ns.length : Int) - 1)) = true := by
      simp [nats, wholeB]
      intro t ht
      have := h4 t ht
      omega
    have hr : (nats fs).all (wholeB 0 ((c : Int) - 1)) = true := by
      simp [nats, wholeB]
      intro t ht
      have := h5 t ht
      omega
    simp only [Mk.enc, isMk, tableB, if_neg e, if_neg e2, nats_length, hall, hr]
    simp [wholeB]
    omega
theorem sh_str {x : Str} (h : PyData.strOk x = true) : Sh 0 (.str x) := ⟨by simpa [PyData.canLay0] using h, by simp [PyData.depth]⟩
theorem sh_enc (m : Mk) : Sh 2 m.enc := by
  have hn : ∀ n : Nat, Sh 1 (nat n) := fun n => (sh_int _).mono (by decide)
  have ht : ∀ l : List Nat, Sh 1 (.tuple (nats l)) := fun l => sh_tuple (sh_nats l)
  cases m with
  | sums n f m c =>
    exact sh_tuple fun d hd => by
      simp at hd
      rcases hd with rfl | rfl | rfl | rfl | rfl
      · exact (sh_str strOk_sums).mono (by decide)
      all_goals exact hn _
  | bits b ts c =>
    exact sh_tuple fun d hd => by
      simp at hd
      rcases hd with rfl | rfl | rfl | rfl
      · exact (sh_str strOk_bits).mono (by decide)
      · exact hn _
      · exact ht _
      · exact hn _
  | tab ns fs c =>
    exact sh_tuple fun d hd => by
      simp at hd
      rcases hd with rfl | rfl | rfl | rfl
      · exact (sh_str strOk_table).mono (by decide)
      · exact ht _
      · exact ht _
      · exact hn _
@[simp] theorem shaped_enc (m : Mk) : SeqAt.shaped m.enc = true := (sh_enc m).ok (by decide)
theorem eqv_enc (m : Mk) : PyData.eqv m.enc m.enc = true := by
  cases m <;> simp [Mk.enc, eqvAll_nats]
theorem last_enc (m : Mk) : atI (match m.enc with | .tuple ds => ds | _ => []) (-1) = some (nat m.faces) := by
  cases m <;> simp [Mk.enc, Mk.faces]
theorem tab_enc (ns fs : List Nat) (c : Nat) : PyData.tuple [.str "table", .tuple (nats ns), .tuple (nats fs), nat c] = (Mk.tab ns fs c).enc := rfl
theorem ix_last {m : Mk} {Q : PyData → Prop} : dIxI m.enc (-1) Q ↔ Q (nat m.faces) := by
  cases m <;> simp [Mk.enc, Mk.faces]
theorem toTab_toTab (m : Mk) : m.toTab.toTab = m.toTab := by
  have h1 := Mk.toTab_size m
  show Mk.tab _ _ _ = Mk.tab _ _ _
  rw [h1]
  congr 1
  · exact List.map_congr_left fun s hs => m.toTab_step (List.mem_range.mp hs)
  · exact List.map_congr_left fun s hs => m.toTab_face (List.mem_range.mp hs)
@[simp] theorem ex_pair {A B : Type} {a : A} {b : B} {P : A → B → Prop} : (∃ x y, (a = x ∧ b = y) ∧ P x y) ↔ P a b :=
  ⟨fun ⟨_, _, ⟨e, e2⟩, h⟩ => by subst e e2; exact h, fun h => ⟨a, b, ⟨rfl, rfl⟩, h⟩⟩
@[simp] theorem ex_pair2 {A B : Type} {a : A} {b : B} {P : A → B → Prop} : (∃ x y, (a = x ∧ y = b) ∧ P x y) ↔ P a b :=
  ⟨fun ⟨_, _, ⟨e, e2⟩, h⟩ => by subst e e2; exact h, fun h => ⟨a, b, ⟨rfl, rfl⟩, h⟩⟩
@[simp] theorem ex_pair3 {A B : Type} {a : A} {b : B} {P : A → B → Prop} : (∃ x y, (x = a ∧ y = b) ∧ P x y) ↔ P a b :=
  ⟨fun ⟨_, _, ⟨e, e2⟩, h⟩ => by subst e e2; exact h, fun h => ⟨a, b, ⟨rfl, rfl⟩, h⟩⟩
theorem has_nats (l : List Nat) (x : Nat) : hasD (nats l) (nat x) = decide (x ∈ l) := by
  unfold hasD
  rw [Bool.eq_iff_iff]
  simp [nats]
  constructor
  · rintro ⟨a, ha, e⟩
    have : a = x := by omega
    subst this
    exact ha
  · intro h
    exact ⟨x, h, rfl⟩
theorem anyB_map {A : Type} (l : List A) (p : A → Bool) : anyB (l.map p) = l.any p := by simp [anyB, List.any_map, Function.comp_def]
/-- the stands of the first j steps -/
def way (m : Mk) (j s : Nat) : List Nat := (List.range j).map fun i => m.go i s
theorem way_succ (m : Mk) (j s : Nat) : way m (j + 1) s = way m j s ++ [m.go j s] := by simp [way, List.range_succ]
theorem way_length (m : Mk) (j s : Nat) : (way m j s).length = j := by simp [way]
theorem mem_way {m : Mk} {j s x : Nat} : x ∈ way m j s ↔ ∃ i, i < j ∧ m.go i s = x := by simp [way]
theorem idx_way {m : Mk} (h : m.Ok) {s : Nat} (hs : s < m.size) : idxD (nats (way m (m.wn s) s)) (nat (m.go (m.wn s) s)) = some (m.tl s) := by
  have ht := Mk.tl_lt h hs
  rw [idxD, List.findIdx?_eq_some_iff_getElem]
  refine ⟨by rw [nats_length, way_length]; exact ht, ?_, fun j hj => ?_⟩
  · simp [nats, way]
    rw [Mk.tl_go_wn h hs]
  · simp [nats, way]
    intro e
    have := (lst_spec (P := fun i => m.go i s = m.go (m.wn s) s) ⟨_, Mk.tl_go_wn h hs⟩).2 j hj
    exact this (by omega)
theorem drop_way (m : Mk) (s t n : Nat) : (way m (t + n) s).drop t = (List.range n).map fun k => m.go k (m.go t s) := by
  apply List.ext_getElem
  · simp [way]
  · intro i h1 h2
    simp [way, Mk.go_add]
theorem nats_range_at {n j : Nat} {d : PyData} (h : (nats (List.range n))[j]? = some d) : j < n ∧ d = nat j := by
  rw [nats, List.getElem?_map] at h
  by_cases q : j < n
  · rw [List.getElem?_range q] at h
    exact ⟨q, (Option.some.inj h).symm⟩
  · rw [List.getElem?_eq_none (by simpa using q)] at h
    cases h
/-! numbers drawn -/
noncomputable def sizeFor (c B : Nat) : Nat := lst fun k => B ≤ c ^ k
theorem sizeFor_ex {c : Nat} (hc : 2 ≤ c) (B : Nat) : ∃ k, B ≤ c ^ k := ⟨B, Nat.le_of_lt (Nat.lt_of_lt_of_le Nat.lt_two_pow_self (Nat.pow_le_pow_left hc B))⟩
theorem sizeFor_ge {c : Nat} (hc : 2 ≤ c) (B : Nat) : B ≤ c ^ sizeFor c B := (lst_spec (sizeFor_ex hc B)).1
theorem sizeFor_lt {c B k : Nat} (h : k < sizeFor c B) : c ^ k < B := by
  by_cases q : B ≤ c ^ k
  · have := lst_le (P := fun k => B ≤ c ^ k) q
    unfold sizeFor at h
    omega
  · omega
theorem sizeFor_pow {c : Nat} (hc : 2 ≤ c) (k : Nat) : sizeFor c (c ^ k) = k := by
  have h1 : sizeFor c (c ^ k) ≤ k := lst_le (P := fun j => c ^ k ≤ c ^ j) (Nat.le_refl _)
  have h2 := sizeFor_ge hc (c ^ k)
  have h3 := (Nat.pow_le_pow_iff_right (a := c) (by omega)).mp h2
  omega
/-- digits read, the first the highest -/
def horner (c : Nat) (l : List Nat) : Nat := l.foldl (fun a x => a * c + x) 0
def Mk.num (m : Mk) (k s : Nat) : Nat := horner m.faces (m.draw k s)
theorem foldl_horner (c : Nat) : ∀ (l : List Nat) (a : Nat), l.foldl (fun a x => a * c + x) a = a * c ^ l.length + horner c l
  | [], a => by simp [horner]
  | x :: l, a => by
    have e1 : horner c (x :: l) = x * c ^ l.length + horner c l := by
      show List.foldl (fun a x => a * c + x) (0 * c + x) l = _
      rw [foldl_horner c l, Nat.zero_mul, Nat.zero_add]
    rw [List.foldl_cons, foldl_horner c l, e1, List.length_cons, Nat.pow_succ, Nat.add_mul, Nat.mul_assoc, Nat.mul_comm c, Nat.add_assoc]
theorem horner_append (c : Nat) (a b : List Nat) : horner c (a ++ b) = horner c a * c ^ b.length + horner c b := by
  rw [horner, List.foldl_append, foldl_horner]
  rfl
theorem horner_lt {c : Nat} : ∀ {l : List Nat}, (∀ x ∈ l, x < c) → horner c l < c ^ l.length
  | [], _ => by simp [horner]
  | x :: l, h => by
    have h1 := horner_lt (l := l) fun y hy => h y (List.mem_cons_of_mem _ hy)
    have h2 := h x (List.mem_cons_self ..)
    rw [show x :: l = [x] ++ l from rfl, horner_append, List.length_append, Nat.pow_add]
    have e : horner c [x] = x := by simp [horner]
    rw [e]
    simp only [List.length_cons, List.length_nil, Nat.zero_add, Nat.pow_one]
    calc x * c ^ l.length + horner c l < x * c ^ l.length + c ^ l.length := by omega
      _ = (x + 1) * c ^ l.length := by rw [Nat.succ_mul]
      _ ≤ c * c ^ l.length := Nat.mul_le_mul_right _ h2
theorem num_lt {m : Mk} (h : m.Ok) {s : Nat} (hs : s < m.size) (k : Nat) : m.num k s < m.faces ^ k := by
  have := horner_lt (c := m.faces) (h.draw_lt k hs)
  rwa [Mk.draw_length] at this
theorem num_add (m : Mk) (j k s : Nat) : m.num (j + k) s = m.num j s * m.faces ^ k + m.num k (m.go j s) := by
  rw [Mk.num, Mk.draw_add, horner_append, Mk.draw_length]
  rfl
theorem shaped_rows (l : List (List Nat)) : SeqAt.shaped (.list (l.map fun r => PyData.tuple (nats r))) = true := (sh_list (n := 1) fun d hd => by
  obtain ⟨r, _, rfl⟩ := List.mem_map.mp hd
  exact sh_tuple (sh_nats r)).ok (by decide)
theorem shaped_rowsT (l : List (List Nat)) : SeqAt.shaped (.tuple (l.map fun r => PyData.tuple (nats r))) = true := (sh_tuple (n := 1) fun d hd => by
  obtain ⟨r, _, rfl⟩ := List.mem_map.mp hd
  exact sh_tuple (sh_nats r)).ok (by decide)
theorem shaped_nil : SeqAt.shaped (.list []) = true := shaped_natsL []
theorem shaped_nilT : SeqAt.shaped (.tuple []) = true := shaped_nats []
end Dm
end
section
set_option Elab.async false
set_option linter.all false
set_option maxRecDepth 100000
set_option autoImplicit false
set_option maxHeartbeats 4000000
/-! Giv: what a row gives away, in plain Lean. -/
namespace Dm
open PySem L2 Fd
theorem lt_uniq : ∀ {a b : List Int}, a.Pairwise (· < ·) → b.Pairwise (· < ·) → (∀ x, x ∈ a ↔ x ∈ b) → a = b
  | [], [], _, _, _ => rfl
  | [], y :: b, _, _, h => absurd ((h y).mpr (List.mem_cons_self ..)) (List.not_mem_nil)
  | x :: a, [], _, _, h => absurd ((h x).mp (List.mem_cons_self ..)) (List.not_mem_nil)
  | x :: a, y :: b, ha, hb, h => by
    obtain ⟨ha1, ha2⟩ := List.pairwise_cons.mp ha
    obtain ⟨hb1, hb2⟩ := List.pairwise_cons.mp hb
    have e : x = y := by
      rcases List.mem_cons.mp ((h x).mp (List.mem_cons_self ..)) with q | q
      · exact q
      · rcases List.mem_cons.mp ((h y).mpr (List.mem_cons_self ..)) with q2 | q2
        · exact q2.symm
        · have h1 := hb1 x q
          have h2 := ha1 y q2
          omega
    subst e
    rw [lt_uniq ha2 hb2 fun z => ⟨fun hz => by
      have h1 := ha1 z hz
      rcases List.mem_cons.mp ((h z).mp (List.mem_cons_of_mem _ hz)) with q | q
      · omega
      · exact q, fun hz => by
      have h1 := hb1 z hz
      rcases List.mem_cons.mp ((h z).mpr (List.mem_cons_of_mem _ hz)) with q | q
      · omega
      · exact q⟩]
/-- the members of l, rising, once each -/
def sset (B : Nat) (l : List Nat) : List Nat := (List.range B).filter fun x => decide (x ∈ l)
theorem mem_sset {B : Nat} {l : List Nat} (h : ∀ x ∈ l, x < B) {x : Nat} : x ∈ sset B l ↔ x ∈ l := by
  simp [sset]
  exact fun q => h x q
theorem sset_pw (B : Nat) (l : List Nat) : (sset B l).Pairwise (· < ·) := (List.pairwise_lt_range).filter _
theorem sset_len (B : Nat) (l : List Nat) : (sset B l).length ≤ B := nodup_le B _ (nodup_of_lt (sset_pw B l)) fun x hx => List.mem_range.mp (List.mem_filter.mp hx).1
theorem natlt_uniq {a b : List Nat} (ha : a.Pairwise (· < ·)) (hb : b.Pairwise (· < ·)) (h : ∀ x, x ∈ a ↔ x ∈ b) : a = b := by
  have := lt_uniq (a := a.map fun (n : Nat) => (n : Int)) (b := b.map fun (n : Nat) => (n : Int)) (by rw [List.pairwise_map]; exact ha.imp (by omega)) (by rw [List.pairwise_map]; exact hb.imp (by omega)) (fun x => by
    constructor
    · intro q
      obtain ⟨n, hn, rfl⟩ := List.mem_map.mp q
      exact List.mem_map.mpr ⟨n, (h n).mp hn, rfl⟩
    · intro q
      obtain ⟨n, hn, rfl⟩ := List.mem_map.mp q
      exact List.mem_map.mpr ⟨n, (h n).mpr hn, rfl⟩)
  have h2 := congrArg (List.map Int.toNat) this
  simpa [List.map_map, Function.comp_def] using h2
theorem sset_of {B : Nat} {l a : List Nat} (h : ∀ x ∈ l, x < B) (ha : a.Pairwise (· < ·)) (hm : ∀ x, x ∈ a ↔ x ∈ l) : a = sset B l := natlt_uniq ha (sset_pw B l) fun x => by rw [hm, mem_sset h]
/-- the reading of sorted(set(xs)) at known numbers -/
theorem sortset_iff {B : Nat} {l : List Nat} (hl : l.length < 4000) (hB : ∀ x ∈ l, x < B) {Q : List PyData → Prop} :
    (∃ ns : List Int, nats l = ns.map PyData.int ∧ ns.length < 4000 ∧ ∀ out : List Int, out.Pairwise (· < ·) → (∀ k, k ∈ out ↔ k ∈ ns) → Q (out.map PyData.int)) ↔ Q (nats (sset B l)) := by
  have hmem : ∀ k : Int, k ∈ (l.map fun (n : Nat) => (n : Int)) ↔ k ∈ ((sset B l).map fun (n : Nat) => (n : Int)) := fun k => by
    constructor
    · intro q
      obtain ⟨n, hn, rfl⟩ := List.mem_map.mp q
      exact List.mem_map.mpr ⟨n, (mem_sset hB).mpr hn, rfl⟩
    · intro q
      obtain ⟨n, hn, rfl⟩ := List.mem_map.mp q
      exact List.mem_map.mpr ⟨n, (mem_sset hB).mp hn, rfl⟩
  have hpw : ((sset B l).map fun (n : Nat) => (n : Int)).Pairwise (· < ·) := by rw [List.pairwise_map]; exact (sset_pw B l).imp (by omega)
  rw [nats_ints l, ex_ints, nats_ints (sset B l)]
  constructor
  · rintro ⟨_, q⟩
    exact q _ hpw fun k => (hmem k).symm
  · intro q
    refine ⟨by simpa using hl, fun out ho hk => ?_⟩
    have := lt_uniq ho hpw fun x => (hk x).trans (hmem x)
    rw [this]
    exact q
/-- the reading of sorted(xs) at numbers told once each -/
theorem sorti_iff {l F : List Nat} (hn : l.Nodup) (hF : F.Pairwise (· < ·)) (hm : ∀ x, x ∈ l ↔ x ∈ F) {Q : List PyData → Prop} :
    (∃ ns : List Int, nats l = ns.map PyData.int ∧ ∀ out : List Int, out.Perm ns → out.Pairwise (· ≤ ·) → Q (out.map PyData.int)) ↔ Q (nats F) := by
  have hFi : (F.map fun (n : Nat) => (n : Int)).Pairwise (· < ·) := by rw [List.pairwise_map]; exact hF.imp (by omega)
  have hp : F.Perm l := (List.perm_ext_iff_of_nodup (nodup_of_lt hF) hn).mpr fun a => (hm a).symm
  rw [nats_ints l, ex_ints, nats_ints F]
  constructor
  · intro q
    exact q _ (hp.map _) (hFi.imp fun h => by omega)
  · intro q out ho hpw
    have hnd : out.Nodup := by
      rw [ho.nodup_iff]
      rw [List.Nodup, List.pairwise_map]
      exact hn.imp fun h => by omega
    have hlt : out.Pairwise (· < ·) := by
      have := hpw.and hnd
      exact this.imp fun ⟨h1, h2⟩ => by omega
    have : out = F.map fun (n : Nat) => (n : Int) := lt_uniq hlt hFi fun x => by
      rw [ho.mem_iff]
      constructor
      · intro q
        obtain ⟨n, hn, rfl⟩ := List.mem_map.mp q
        exact List.mem_map.mpr ⟨n, (hm n).mp hn, rfl⟩
      · intro q
        obtain ⟨n, hn, rfl⟩ := List.mem_map.mp q
        exact List.mem_map.mpr ⟨n, (hm n).mpr hn, rfl⟩
    rw [this]
    exact q
/-- the same, told by numbers -/
theorem sortset_iff' {B : Nat} {l : List Nat} (hl : l.length < 4000) (hB : ∀ x ∈ l, x < B) {Q : List Int → Prop} :
    (∃ ns : List Int, nats l = ns.map PyData.int ∧ ns.length < 4000 ∧ ∀ out : List Int, out.Pairwise (· < ·) → (∀ k, k ∈ out ↔ k ∈ ns) → Q out) ↔ Q ((sset B l).map fun (n : Nat) => (n : Int)) := by
  have hmem : ∀ k : Int, k ∈ (l.map fun (n : Nat) => (n : Int)) ↔ k ∈ ((sset B l).map fun (n : Nat) => (n : Int)) := fun k => by
    constructor
    · intro q
      obtain ⟨n, hn, rfl⟩ := List.mem_map.mp q
      exact List.mem_map.mpr ⟨n, (mem_sset hB).mpr hn, rfl⟩
    · intro q
      obtain ⟨n, hn, rfl⟩ := List.mem_map.mp q
      exact List.mem_map.mpr ⟨n, (mem_sset hB).mp hn, rfl⟩
  have hpw : ((sset B l).map fun (n : Nat) => (n : Int)).Pairwise (· < ·) := by rw [List.pairwise_map]; exact (sset_pw B l).imp (by omega)
  rw [nats_ints l, ex_ints]
  constructor
  · rintro ⟨_, q⟩
    exact q _ hpw fun k => (hmem k).symm
  · intro q
    refine ⟨by simpa using hl, fun out ho hk => ?_⟩
    have := lt_uniq ho hpw fun x => (hk x).trans (hmem x)
    rw [this]
    exact q
/-- the same, told by numbers -/
theorem sorti_iff' {l F : List Nat} (hn : l.Nodup) (hF : F.Pairwise (· < ·)) (hm : ∀ x, x ∈ l ↔ x ∈ F) {Q : List Int → Prop} :
    (∃ ns : List Int, nats l = ns.map PyData.int ∧ ∀ out : List Int, out.Perm ns → out.Pairwise (· ≤ ·) → Q out) ↔ Q (F.map fun (n : Nat) => (n : Int)) := by
  have hFi : (F.map fun (n : Nat) => (n : Int)).Pairwise (· < ·) := by rw [List.pairwise_map]; exact hF.imp (by omega)
  have hp : F.Perm l := (List.perm_ext_iff_of_nodup (nodup_of_lt hF) hn).mpr fun a => (hm a).symm
  rw [nats_ints l, ex_ints]
  constructor
  · intro q
    exact q _ (hp.map _) (hFi.imp fun h => by omega)
  · intro q out ho hpw
    have hnd : out.Nodup := by
      rw [ho.nodup_iff]
      rw [List.Nodup, List.pairwise_map]
      exact hn.imp fun h => by omega
    have hlt : out.Pairwise (· < ·) := by
      have := hpw.and hnd
      exact this.imp fun ⟨h1, h2⟩ => by omega
    have : out = F.map fun (n : Nat) => (n : Int) := lt_uniq hlt hFi fun x => by
      rw [ho.mem_iff]
      constructor
      · intro q
        obtain ⟨n, hn, rfl⟩ := List.mem_map.mp q
        exact List.mem_map.mpr ⟨n, (hm n).mp hn, rfl⟩
      · intro q
        obtain ⟨n, hn, rfl⟩ := List.mem_map.mp q
        exact List.mem_map.mpr ⟨n, (hm n).mpr hn, rfl⟩
    rw [this]
    exact q
namespace Mk
variable {m : Mk}
/-- the stands from which a row comes; those behind it; what may come -/
def fromL (m : Mk) (row : List Nat) : List Nat := (List.range m.size).filter fun s => decide (m.draw row.length s = row)
def nextL (m : Mk) (l : List Nat) (d : Nat) : List Nat := sset m.size ((l.filter fun s => decide (m.face s = d)).map m.step)
def atL (m : Mk) (row : List Nat) : List Nat := row.foldl m.nextL (List.range m.size)
def mayL (m : Mk) (row : List Nat) : List Nat := sset m.faces ((m.atL row).map m.face)
theorem mem_fromL {m : Mk} {row : List Nat} {s : Nat} : s ∈ m.fromL row ↔ s < m.size ∧ m.draw row.length s = row := by simp [fromL]
theorem fromL_pw (m : Mk) (row : List Nat) : (m.fromL row).Pairwise (· < ·) := (List.pairwise_lt_range).filter _
theorem nextL_lt {l : List Nat} {d x : Nat} (hx : x ∈ m.nextL l d) : x < m.size := List.mem_range.mp (List.mem_filter.mp hx).1
theorem mem_nextL (h : m.Ok) {l : List Nat} (hl : ∀ x ∈ l, x < m.size) {d x : Nat} : x ∈ m.nextL l d ↔ ∃ s ∈ l, m.face s = d ∧ m.step s = x := by
  rw [nextL, mem_sset fun y hy => by
    obtain ⟨s, hs, rfl⟩ := List.mem_map.mp hy
    exact h.step_lt (hl s (List.mem_filter.mp hs).1)]
  simp [and_assoc]
theorem mem_fold (h : m.Ok) : ∀ (row : List Nat) {l : List Nat} (hl : ∀ x ∈ l, x < m.size) {x : Nat}, x ∈ row.foldl m.nextL l ↔ ∃ s ∈ l, m.draw row.length s = row ∧ m.go row.length s = x
  | [], l, hl, x => by
    constructor
    · intro q; exact ⟨x, q, rfl, rfl⟩
    · rintro ⟨s, hs, _, rfl⟩; exact hs
  | d :: row, l, hl, x => by
    rw [List.foldl_cons, mem_fold h row (fun y hy => nextL_lt hy)]
    constructor
    · rintro ⟨s, hs, e1, e2⟩
      obtain ⟨t, ht, f1, rfl⟩ := (mem_nextL h hl).mp hs
      refine ⟨t, ht, ?_, e2⟩
      show m.face t :: m.draw row.length (m.step t) = _
      rw [e1, f1]
    · rintro ⟨t, ht, e1, e2⟩
      have e1 : m.face t :: m.draw row.length (m.step t) = d :: row := e1
      exact ⟨m.step t, (mem_nextL h hl).mpr ⟨t, ht, (List.cons.inj e1).1, rfl⟩, (List.cons.inj e1).2, e2⟩
theorem mem_atL (h : m.Ok) {row : List Nat} {x : Nat} : x ∈ m.atL row ↔ ∃ s ∈ m.fromL row, m.go row.length s = x := by
  rw [atL, mem_fold h row (fun y hy => List.mem_range.mp hy)]
  constructor
  · rintro ⟨s, hs, e1, e2⟩; exact ⟨s, mem_fromL.mpr ⟨List.mem_range.mp hs, e1⟩, e2⟩
  · rintro ⟨s, hs, e2⟩; exact ⟨s, List.mem_range.mpr (mem_fromL.mp hs).1, (mem_fromL.mp hs).2, e2⟩
theorem fold_pw (m : Mk) : ∀ (row : List Nat) {l : List Nat}, l.Pairwise (· < ·) → (row.foldl m.nextL l).Pairwise (· < ·)
  | [], _, h => h
  | _ :: row, _, _ => fold_pw m row (sset_pw ..)
theorem atL_pw (m : Mk) (row : List Nat) : (m.atL row).Pairwise (· < ·) := fold_pw m row (List.pairwise_lt_range)
theorem atL_lt (h : m.Ok) {row : List Nat} {x : Nat} (hx : x ∈ m.atL row) : x < m.size := by
  obtain ⟨s, hs, rfl⟩ := (mem_atL h).mp hx
  exact h.go_lt _ (mem_fromL.mp hs).1
theorem atL_eq (h : m.Ok) (row : List Nat) : m.atL row = sset m.size ((m.fromL row).map (m.go row.length)) := sset_of (fun x hx => by
  obtain ⟨s, hs, rfl⟩ := List.mem_map.mp hx
  exact h.go_lt _ (mem_fromL.mp hs).1) (atL_pw m row) fun x => by rw [mem_atL h]; simp
theorem fromL_snoc {row : List Nat} {d s : Nat} : s ∈ m.fromL (row ++ [d]) ↔ s ∈ m.fromL row ∧ m.face (m.go row.length s) = d := by
  rw [mem_fromL, mem_fromL, List.length_append, List.length_singleton, draw_succ]
  constructor
  · rintro ⟨h1, h2⟩
    obtain ⟨h3, h4⟩ := List.append_inj h2 (draw_length m row.length s)
    exact ⟨⟨h1, h3⟩, by simpa using h4⟩
  · rintro ⟨⟨h1, h2⟩, h3⟩
    exact ⟨h1, by rw [h2, h3]⟩
theorem mem_mayL (h : m.Ok) {row : List Nat} {d : Nat} : d ∈ m.mayL row ↔ ∃ x ∈ m.atL row, m.face x = d := by
  rw [mayL, mem_sset fun y hy => by
    obtain ⟨s, hs, rfl⟩ := List.mem_map.mp hy
    exact h.face_lt (atL_lt h hs)]
  simp
theorem may_iff (h : m.Ok) {row : List Nat} {d : Nat} : d ∈ m.mayL row ↔ m.fromL (row ++ [d]) ≠ [] := by
  rw [mem_mayL h]
  constructor
  · rintro ⟨x, hx, e⟩ q
    obtain ⟨s, hs, rfl⟩ := (mem_atL h).mp hx
    have := fromL_snoc.mpr ⟨hs, e⟩
    rw [q] at this
    cases this
  · intro q
    obtain ⟨s, hs⟩ := List.exists_mem_of_ne_nil _ q
    obtain ⟨h1, h2⟩ := fromL_snoc.mp hs
    exact ⟨_, (mem_atL h).mpr ⟨s, h1, rfl⟩, h2⟩
theorem fromL_nil (m : Mk) : m.fromL [] = List.range m.size := by
  rw [fromL, List.filter_eq_self]
  intro s _
  simp [draw]
/-- parted by the face that comes next -/
def partL (m : Mk) (row : List Nat) (j : Nat) : List Nat := ((List.range j).map fun d => m.fromL (row ++ [d])).flatten
theorem partL_succ (m : Mk) (row : List Nat) (j : Nat) : m.partL row (j + 1) = m.partL row j ++ m.fromL (row ++ [j]) := by simp [partL, List.range_succ]
theorem mem_partL {m : Mk} {row : List Nat} {j s : Nat} : s ∈ m.partL row j ↔ s ∈ m.fromL row ∧ m.face (m.go row.length s) < j := by
  simp only [partL, List.mem_flatten, List.mem_map, List.mem_range]
  constructor
  · rintro ⟨l, ⟨d, hd, rfl⟩, hs⟩
    obtain ⟨h1, h2⟩ := fromL_snoc.mp hs
    exact ⟨h1, by omega⟩
  · rintro ⟨h1, h2⟩
    exact ⟨_, ⟨_, h2, rfl⟩, fromL_snoc.mpr ⟨h1, rfl⟩⟩
theorem partL_nodup (m : Mk) (row : List Nat) : ∀ j, (m.partL row j).Nodup
  | 0 => by simp [partL]
  | j + 1 => by
    rw [partL_succ, List.nodup_append]
    refine ⟨partL_nodup m row j, nodup_of_lt (fromL_pw m _), fun a ha b hb e => ?_⟩
    subst e
    have h1 := (mem_partL.mp ha).2
    have h2 := (fromL_snoc.mp hb).2
    omega
theorem partL_len (m : Mk) (row : List Nat) (j : Nat) : (m.partL row j).length ≤ m.size := nodup_le _ _ (partL_nodup m row j) fun x hx => (mem_fromL.mp (mem_partL.mp hx).1).1
theorem fromL_len (m : Mk) (row : List Nat) : (m.fromL row).length ≤ m.size := nodup_le _ _ (nodup_of_lt (fromL_pw m row)) fun x hx => (mem_fromL.mp hx).1
end Mk
end Dm
end
section
set_option Elab.async false
set_option linter.all false
set_option maxRecDepth 100000
set_option autoImplicit false
set_option maxHeartbeats 4000000
/-! Srt: the reading of sorted(..) of data at numbers. -/
namespace Dm
open PySem L2 Fd PySem.W
def unNat : PyData → Nat
  | .int i => i.toNat
  | _ => 0
theorem perm_nats' {out : List PyData} {l : List Nat} (h : out.Perm (nats l)) : out = nats (out.map unNat) ∧ (out.map unNat).Perm l := by
  constructor
  · rw [nats, List.map_map]
    refine (List.map_id out).symm.trans (List.map_congr_left fun d hd => ?_)
    obtain ⟨n, _, rfl⟩ := List.mem_map.mp (h.mem_iff.mp hd)
    simp [unNat, nat]
  · have h2 := h.map unNat
    rw [nats, List.map_map] at h2
    have e : (unNat ∘ nat) = id := by funext n; simp [unNat, nat]
    rw [e, List.map_id] at h2
    exact h2
theorem alike_nats (l : List Nat) : AllAlike (nats l) := fun d hd d' hd' => by
  obtain ⟨n, _, rfl⟩ := List.mem_map.mp hd
  obtain ⟨k, _, rfl⟩ := List.mem_map.mp hd'
  simp [alike]
theorem sortable_nats (l : List Nat) : Sortable (nats l) := .inr fun d hd => by
  obtain ⟨n, _, rfl⟩ := List.mem_map.mp hd
  exact ⟨(fun e => by cases e), (fun xs e => by cases e)⟩
theorem sortd_nats {l F : List Nat} (hn : l.Nodup) (hF : F.Pairwise (· < ·)) (hm : ∀ x, x ∈ l ↔ x ∈ F) (hl : l.length ≤ 16777216) {Q : List PyData → Prop} :
    (AllAlike (nats l) ∧ Sortable (nats l) ∧ (nats l).length ≤ sizeLine ∧ (∀ d ∈ nats l, d.depth ≤ 60) ∧ ∀ out : List PyData, out.Perm (nats l) → out.Pairwise (fun a b => dataLt b a = false) → Q out) ↔ Q (nats F) := by
  have hp : F.Perm l := (List.perm_ext_iff_of_nodup (nodup_of_lt hF) hn).mpr fun a => (hm a).symm
  constructor
  · rintro ⟨_, _, _, _, q⟩
    refine q _ (hp.map nat) ?_
    rw [nats, List.pairwise_map]
    refine hF.imp fun {a b} hab => ?_
    rw [dataLt_int]
    exact decide_eq_false (by omega)
  · intro q
    refine ⟨alike_nats l, sortable_nats l, by rw [nats_length, line]; exact hl, fun d hd => (by obtain ⟨n, _, rfl⟩ := List.mem_map.mp hd; simp [PyData.depth]), fun out ho hpw => ?_⟩
    obtain ⟨e, hp2⟩ := perm_nats' ho
    rw [e] at hpw ⊢
    generalize out.map unNat = l2 at *
    have hle : l2.Pairwise (· ≤ ·) := by
      rw [nats, List.pairwise_map] at hpw
      refine hpw.imp fun {a b} hab => ?_
      rw [dataLt_int] at hab
      have := of_decide_eq_false hab
      omega
    have hlt : l2.Pairwise (· < ·) := (hle.and (hp2.nodup_iff.mpr hn)).imp fun ⟨h1, h2⟩ => by omega
    rw [natlt_uniq hlt hF fun x => by rw [hp2.mem_iff, hm]]
    exact q
end Dm
end
section
set_option Elab.async false
set_option linter.all false
set_option maxRecDepth 100000
set_option autoImplicit false
set_option maxHeartbeats 4000000
/-! Srt2: sorted lists of data are told by their order. -/
namespace Dm
open PySem L2 Fd PySem.W
theorem eqvAll_self (l : List Nat) : PyData.eqvAll (nats l) (nats l) = true := by simp [eqvAll_nats]
theorem toTab_draw {m : Mk} (h : m.Ok) : ∀ (k : Nat) {s : Nat}, s < m.size → m.toTab.draw k s = m.draw k s
  | 0, _, _ => rfl
  | k + 1, s, hs => by
    show m.toTab.face s :: m.toTab.draw k (m.toTab.step s) = m.face s :: m.draw k (m.step s)
    rw [m.toTab_face hs, m.toTab_step hs, toTab_draw h k (h.step_lt hs)]
theorem rngD_at {lo : Int} {n j : Nat} {d : PyData} (h : (rngD lo n)[j]? = some d) : j < n ∧ d = .int (lo + (j : Nat)) := by
  have h1 := (List.getElem?_eq_some_iff.mp h).1
  rw [rngD_length] at h1
  rw [rngD, List.getElem?_map, List.getElem?_range h1] at h
  exact ⟨h1, (Option.some.inj h).symm⟩
theorem sort_uniq : ∀ {out L : List PyData}, out.Perm L → out.Pairwise (fun a b => dataLt b a = false) → L.Pairwise (fun a b => dataLt a b = true) → out = L
  | [], L, h, _, _ => (List.nil_perm.mp h).symm ▸ rfl
  | o :: out, [], h, _, _ => by have := h.length_eq; simp at this
  | o :: out, l :: L, h, hp, hs => by
    have e : o = l := by
      have h1 : l ∈ o :: out := h.mem_iff.mpr (List.mem_cons_self ..)
      have h2 : o ∈ l :: L := h.mem_iff.mp (List.mem_cons_self ..)
      rcases List.mem_cons.mp h1 with z | z
      · exact z.symm
      · rcases List.mem_cons.mp h2 with y | y
        · exact y
        · have a := (List.pairwise_cons.mp hp).1 l z
          have b := (List.pairwise_cons.mp hs).1 o y
          rw [a] at b
          cases b
    subst e
    rw [sort_uniq (h.cons_inv) (List.pairwise_cons.mp hp).2 (List.pairwise_cons.mp hs).2]
theorem sortd_iff {ds L : List PyData} (hp : L.Perm ds) (hs : L.Pairwise (fun a b => dataLt a b = true)) (ha : AllAlike ds) (hk : Sortable ds) (hl : ds.length ≤ sizeLine) (hd : ∀ d ∈ ds, d.depth ≤ 60) {Q : List PyData → Prop} :
    (AllAlike ds ∧ Sortable ds ∧ ds.length ≤ sizeLine ∧ (∀ d ∈ ds, d.depth ≤ 60) ∧ ∀ out : List PyData, out.Perm ds → out.Pairwise (fun a b => dataLt b a = false) → Q out) ↔ Q L := by
  constructor
  · rintro ⟨_, _, _, _, q⟩
    refine q L hp (hs.imp fun {a b} h => ?_)
    cases e : dataLt b a with
    | false => rfl
    | true =>
      have := PyProof.Rows.lex_trans (O := PyProof.Rows.itemOrd) _ _ _ h e
      have h2 : dataLt a a = false := PyProof.Rows.lex_irrefl _
      have h3 : dataLt a a = true := this
      rw [h2] at h3
      cases h3
  · intro q
    exact ⟨ha, hk, hl, hd, fun out ho hpw => by rw [sort_uniq (ho.trans hp.symm) hpw hs]; exact q⟩
theorem lt_cast : ∀ {a b : List Nat}, (a.map fun (n : Nat) => (n : Int)) < (b.map fun (n : Nat) => (n : Int)) ↔ a < b
  | [], [] => by simp
  | [], b :: bs => by simp
  | a :: as, [] => by simp
  | a :: as, b :: bs => by
    simp only [List.map_cons, List.cons_lt_cons_iff, lt_cast (a := as) (b := bs), Int.ofNat_lt, Int.ofNat_inj]
theorem row_lt (a b : List Nat) : dataLt (.tuple (nats a)) (.tuple (nats b)) = decide (a < b) := by
  have h : dataLt (.tuple (nats a)) (.tuple (nats b)) = rowLt (nats a) (nats b) := dataLt_tuple _ _
  rw [h, nats_ints, nats_ints, dataLt_ints]
  by_cases q : a < b
  · rw [decide_eq_true (lt_cast.mpr q), decide_eq_true q]
  · rw [decide_eq_false (fun z => q (lt_cast.mp z)), decide_eq_false q]
theorem alike_all_nats : ∀ a b : List Nat, alikeAll (nats a) (nats b) = true
  | [], _ => by simp [alikeAll]
  | _ :: _, [] => by simp [alikeAll]
  | a :: as, b :: bs => by
    have := alike_all_nats as bs
    simp only [nats] at this
    simp [alikeAll, alike, this]
theorem alike_rows (l : List (List Nat)) : AllAlike (l.map fun r => PyData.tuple (nats r)) := fun d hd d' hd' => by
  obtain ⟨a, _, rfl⟩ := List.mem_map.mp hd
  obtain ⟨b, _, rfl⟩ := List.mem_map.mp hd'
  simp only [alike]
  exact alike_all_nats a b
theorem sortable_rows {l : List (List Nat)} (h : ∀ r ∈ l, r ≠ []) : Sortable (l.map fun r => PyData.tuple (nats r)) := .inl fun d hd => by
  obtain ⟨a, ha, rfl⟩ := List.mem_map.mp hd
  cases a with
  | nil => exact absurd rfl (h _ ha)
  | cons x r => exact ⟨nat x, nats r, rfl⟩
theorem depth_rows (l : List (List Nat)) : ∀ d ∈ (l.map fun r => PyData.tuple (nats r)), d.depth ≤ 60 := fun d hd => by
  obtain ⟨a, _, rfl⟩ := List.mem_map.mp hd
  exact Nat.le_trans (sh_tuple (sh_nats a)).dep (by decide)
theorem sortd_rows {l L : List (List Nat)} (hp : L.Perm l) (hs : L.Pairwise (· < ·)) (hn : ∀ r ∈ l, r ≠ []) (hl : l.length ≤ 16777216) {Q : List PyData → Prop} :
    (AllAlike (l.map fun r => PyData.tuple (nats r)) ∧ Sortable (l.map fun r => PyData.tuple (nats r)) ∧ (l.map fun r => PyData.tuple (nats r)).length ≤ sizeLine ∧ (∀ d ∈ (l.map fun r => PyData.tuple (nats r)), d.depth ≤ 60) ∧
      ∀ out : List PyData, out.Perm (l.map fun r => PyData.tuple (nats r)) → out.Pairwise (fun a b => dataLt b a = false) → Q out) ↔ Q (L.map fun r => PyData.tuple (nats r)) :=
  sortd_iff (hp.map _) (by rw [List.pairwise_map]; exact hs.imp fun {a b} h => by rw [row_lt]; exact decide_eq_true h) (alike_rows l) (sortable_rows hn) (by rw [List.length_map, line]; exact hl) (depth_rows l)
end Dm
end
section
set_option Elab.async false
set_option linter.all false
set_option maxRecDepth 100000
set_option autoImplicit false
set_option maxHeartbeats 4000000
/-! Dct: keys and dicts, plain; runs that stop or come again. -/
namespace Dm
open PySem L2 Fd
def rowK (l : List Nat) : NestedKey := .tup (l.map fun (n : Nat) => .num (n : Int))
theorem keysOf_nats : ∀ l : List Nat, keysOf (nats l) = some (l.map fun (n : Nat) => NestedKey.num (n : Int))
  | [] => rfl
  | n :: l => by
    have ih := keysOf_nats l
    show (match Fd.keyOf (nat n), keysOf (nats l) with | some k, some ks => some (k :: ks) | _, _ => none) = _
    rw [ih]
    rfl
theorem okKs_nums : ∀ l : List Nat, goodK.okKs (l.map fun (n : Nat) => NestedKey.num (n : Int)) = true
  | [] => rfl
  | n :: l => by simp [goodK.okKs, goodK.okK, okKs_nums l]
theorem depth_nums : ∀ l : List Nat, NestedKey.depthAll (l.map fun (n : Nat) => NestedKey.num (n : Int)) = 0
  | [] => by simp [NestedKey.depthAll]
  | n :: l => by simp [NestedKey.depthAll, NestedKey.depth, depth_nums l]
theorem keyD_row (l : List Nat) : keyD (.tuple (nats l)) = some (rowK l) := by
  have e : goodK (rowK l) = true := by
    simp [rowK, goodK, okKs_nums, NestedKey.depth, depth_nums]
  simp only [keyD, Fd.keyOf, keysOf_nats, Option.map_some]
  exact Option.filter_eq_some_iff.mpr ⟨rfl, e⟩
theorem keyOf_row (l : List Nat) : Fd.keyOf (.tuple (nats l)) = some (rowK l) := by
  simp only [Fd.keyOf, keysOf_nats, Option.map_some]
  rfl
theorem keyD_rn (l : List Nat) (s : Nat) : keyD (.tuple [.tuple (nats l), nat s]) = some (.tup [rowK l, .num s]) := by
  have e : Fd.keyOf (.tuple [.tuple (nats l), nat s]) = some (.tup [rowK l, .num s]) := by
    simp only [Fd.keyOf, keysOf, keysOf_nats, Option.map_some]
    rfl
  unfold keyD
  rw [e]
  refine Option.filter_eq_some_iff.mpr ⟨rfl, ?_⟩
  simp [rowK, goodK, goodK.okKs, goodK.okK, okKs_nums, NestedKey.depth, NestedKey.depthAll, depth_nums]
theorem keyD_rr (l m : List Nat) : keyD (.tuple [.tuple (nats l), .tuple (nats m)]) = some (.tup [rowK l, rowK m]) := by
  have e : Fd.keyOf (.tuple [.tuple (nats l), .tuple (nats m)]) = some (.tup [rowK l, rowK m]) := by
    simp only [Fd.keyOf, keysOf, keysOf_nats, Option.map_some]
    rfl
  unfold keyD
  rw [e]
  refine Option.filter_eq_some_iff.mpr ⟨rfl, ?_⟩
  simp [rowK, goodK, goodK.okKs, goodK.okK, okKs_nums, NestedKey.depth, NestedKey.depthAll, depth_nums]
theorem keyD_nn (a b : Nat) : keyD (.tuple [nat a, nat b]) = some (rowK [a, b]) := keyD_row [a, b]
theorem rowK_inj {a b : List Nat} (h : rowK a = rowK b) : a = b := by
  unfold rowK at h
  injection h with h
  have h2 := congrArg (List.map fun k => match k with | NestedKey.num i => i.toNat | _ => 0) h
  simpa [List.map_map, Function.comp_def] using h2
theorem rn_inj {a b : List Nat} {s t : Nat} (h : NestedKey.tup [rowK a, .num s] = NestedKey.tup [rowK b, .num t]) : a = b ∧ s = t := by
  injection h with h
  injection h with h1 h2
  injection h2 with h2 _
  injection h2 with h2
  exact ⟨rowK_inj h1, by omega⟩
theorem rr_inj {a b c d : List Nat} (h : NestedKey.tup [rowK a, rowK b] = NestedKey.tup [rowK c, rowK d]) : a = c ∧ b = d := by
  injection h with h
  injection h with h1 h2
  injection h2 with h2 _
  exact ⟨rowK_inj h1, rowK_inj h2⟩
/-! ### what was seen -/
def seenK (st : Nat → NestedKey) (k : Nat) : KVs := (List.range k).map fun j => (st j, .bool true)
theorem seenK_has (st : Nat → NestedKey) (k : Nat) (x : NestedKey) : hasK (seenK st k) x = true ↔ ∃ j, j < k ∧ st j = x := by
  rw [hasK_mem]
  simp [seenK]
theorem seenK_put (st : Nat → NestedKey) (k : Nat) (h : hasK (seenK st k) (st k) = false) : putD (seenK st k) (st k) (.bool true) = seenK st (k + 1) := by
  unfold putD
  rw [if_neg (by rw [h]; simp)]
  simp [seenK, List.range_succ]
theorem seenK_len (st : Nat → NestedKey) (k : Nat) : (seenK st k).length = k := by simp [seenK]
/-! ### pigeons -/
open Classical in
theorem nodup_sub_len {A : Type} : ∀ {l L : List A}, l.Nodup → (∀ x ∈ l, x ∈ L) → l.length ≤ L.length
  | [], _, _, _ => Nat.zero_le _
  | a :: l, L, h, hs => by
    have h' := List.nodup_cons.mp h
    have ha := hs a (List.mem_cons_self ..)
    have ih := nodup_sub_len (l := l) (L := L.erase a) h'.2 fun x hx => by
      refine (List.mem_erase_of_ne ?_).mpr (hs x (List.mem_cons_of_mem _ hx))
      rintro rfl
      exact h'.1 hx
    have e := List.length_erase_of_mem ha
    have : 0 < L.length := List.length_pos_of_mem ha
    rw [List.length_cons]
    omega
theorem pigeon {A : Type} (f : Nat → A) (L : List A) (h : ∀ k, f k ∈ L) : ∃ j, j ≤ L.length ∧ ∃ i, i < j ∧ f i = f j := by
  apply Classical.byContradiction
  intro q
  have nd : ((List.range (L.length + 1)).map f).Nodup := by
    rw [List.Nodup, List.pairwise_map]
    refine (List.pairwise_lt_range).imp_of_mem fun {a b} ha hb hab e => q ⟨b, ?_, a, hab, e⟩
    have := List.mem_range.mp hb
    omega
  have := nodup_sub_len nd fun x hx => by
    obtain ⟨k, _, rfl⟩ := List.mem_map.mp hx
    exact h k
  simp at this
  omega
/-- all rising lists below n -/
def pows : Nat → List (List Nat)
  | 0 => [[]]
  | n + 1 => pows n ++ (pows n).map (· ++ [n])
theorem mem_pows : ∀ (n : Nat) {l : List Nat}, l.Pairwise (· < ·) → (∀ x ∈ l, x < n) → l ∈ pows n
  | 0, l, _, h => by
    cases l with
    | nil => simp [pows]
    | cons a l => exact absurd (h a (List.mem_cons_self ..)) (by omega)
  | n + 1, l, hp, h => by
    by_cases hn : n ∈ l
    · have hne : l ≠ [] := by rintro rfl; cases hn
      have e := List.dropLast_concat_getLast hne
      have hl : l.getLast hne = n := by
        have h1 := h _ (List.getLast_mem hne)
        have h2 : n ≤ l.getLast hne := by
          rw [← e] at hn hp
          rcases List.mem_append.mp hn with z | z
          · have := (List.pairwise_append.mp hp).2.2 n z _ (List.mem_singleton.mpr rfl)
            omega
          · simp at z; omega
        omega
      rw [pows, List.mem_append]
      refine .inr (List.mem_map.mpr ⟨l.dropLast, mem_pows n (hp.sublist (List.dropLast_sublist l)) (fun x hx => ?_), by rw [← hl]; exact e⟩)
      rw [← e] at hp
      have := (List.pairwise_append.mp hp).2.2 x hx _ (List.mem_singleton.mpr rfl)
      omega
    · rw [pows, List.mem_append]
      refine .inl (mem_pows n hp fun x hx => ?_)
      have := h x hx
      by_cases z : x = n
      · subst z; exact absurd hx hn
      · omega
/-! ### a run: it stops where S holds, or comes again -/
section
variable (st : Nat → NestedKey) (S : Nat → Prop)
def again (k : Nat) : Prop := ∃ j, j < k ∧ st j = st k
/-- how far it runs -/
noncomputable def endOf : Nat := lst fun k => S k ∨ again st k
theorem endOf_spec (h : ∃ k, again st k) : (S (endOf st S) ∨ again st (endOf st S)) ∧ ∀ k, k < endOf st S → ¬ S k ∧ ¬ again st k := by
  have := lst_spec (P := fun k => S k ∨ again st k) (let ⟨k, hk⟩ := h; ⟨k, .inr hk⟩)
  exact ⟨this.1, fun k hk => ⟨fun z => this.2 k hk (.inl z), fun z => this.2 k hk (.inr z)⟩⟩
/-- where it goes on by its state alone, and the state tells S: it stops somewhere just if it stops ahead of coming again -/
theorem endOf_stops (h : ∃ k, again st k) (det : ∀ i j, st i = st j → st (i + 1) = st (j + 1)) (hS : ∀ i j, st i = st j → (S i ↔ S j)) : S (endOf st S) ∨ ¬ ∃ k, S k := by
  obtain ⟨h1, h2⟩ := endOf_spec st S h
  rcases h1 with z | ⟨j, hj, e⟩
  · exact .inl z
  · by_cases hs : S (endOf st S)
    · exact .inl hs
    · refine .inr fun ⟨k, hk⟩ => ?_
      -- every state beyond comes among the first ones
      have all : ∀ k, ∃ i, i < endOf st S ∧ st i = st k := by
        intro k
        induction k with
        | zero => exact ⟨0, by omega, rfl⟩
        | succ k ih =>
          obtain ⟨i, hi, ei⟩ := ih
          have e2 := det i k ei
          by_cases q : i + 1 < endOf st S
          · exact ⟨i + 1, q, e2⟩
          · have : i + 1 = endOf st S := by omega
            refine ⟨j, hj, ?_⟩
            rw [← e2, this]
            exact e
      obtain ⟨i, hi, ei⟩ := all k
      exact (h2 i hi).1 ((hS i k ei).mpr hk)
end
end Dm
end
section
set_option Elab.async false
set_option linter.all false
set_option maxRecDepth 100000
set_option autoImplicit false
set_option maxHeartbeats 4000000
/-! Sur: runs of two stands; where one may be behind faces; how long it lasts; plain. -/
namespace Dm
open PySem L2 Fd
theorem again_le {st : Nat → NestedKey} {S : Nat → Prop} {j : Nat} (h : again st j) : endOf st S ≤ j := lst_le (P := fun k => S k ∨ again st k) (.inr h)
/-! ### two stands -/
def pst (m : Mk) (s : Nat) (o : Mk) (p : Nat) (k : Nat) : NestedKey := rowK [m.go k s, o.go k p]
theorem pst_inj {m o : Mk} {s p i j : Nat} (h : pst m s o p i = pst m s o p j) : m.go i s = m.go j s ∧ o.go i p = o.go j p := by
  have := rowK_inj h
  simp at this
  exact this
theorem pst_det {m o : Mk} {s p : Nat} (i j : Nat) (h : pst m s o p i = pst m s o p j) : pst m s o p (i + 1) = pst m s o p (j + 1) := by
  obtain ⟨a, b⟩ := pst_inj h
  unfold pst
  rw [Mk.go_succ, Mk.go_succ, Mk.go_succ, Mk.go_succ, a, b]
theorem pst_again {m o : Mk} (hm : m.Ok) (ho : o.Ok) {s p : Nat} (hs : s < m.size) (hp : p < o.size) : ∃ j, j ≤ m.size * o.size ∧ again (pst m s o p) j := by
  obtain ⟨j, hj, i, hi, e⟩ := pigeon (fun k => m.go k s * o.size + o.go k p) (List.range (m.size * o.size)) fun k => by
    have h1 := hm.go_lt k hs
    have h2 := ho.go_lt k hp
    rw [List.mem_range]
    calc m.go k s * o.size + o.go k p < m.go k s * o.size + o.size := by omega
      _ = (m.go k s + 1) * o.size := by rw [Nat.succ_mul]
      _ ≤ m.size * o.size := Nat.mul_le_mul_right _ h1
  simp at hj
  refine ⟨j, hj, i, hi, ?_⟩
  have e : m.go i s * o.size + o.go i p = m.go j s * o.size + o.go j p := e
  have h2 := ho.go_lt i hp
  have h3 := ho.go_lt j hp
  have e1 : m.go i s = m.go j s := by
    have a := congrArg (· / o.size) e
    simp only [Nat.mul_comm _ o.size] at a
    rwa [Nat.mul_add_div (by omega), Nat.mul_add_div (by omega), Nat.div_eq_of_lt h2, Nat.div_eq_of_lt h3, Nat.add_zero, Nat.add_zero] at a
  rw [e1] at e
  unfold pst
  rw [e1, show o.go i p = o.go j p by omega]
/-- the faces differ behind k steps -/
def dif (m : Mk) (s : Nat) (o : Mk) (p : Nat) (k : Nat) : Prop := m.face (m.go k s) ≠ o.face (o.go k p)
noncomputable def difE (m : Mk) (s : Nat) (o : Mk) (p : Nat) : Nat := endOf (pst m s o p) (dif m s o p)
theorem dif_st {m o : Mk} {s p : Nat} (i j : Nat) (h : pst m s o p i = pst m s o p j) : dif m s o p i ↔ dif m s o p j := by
  obtain ⟨a, b⟩ := pst_inj h
  unfold dif
  rw [a, b]
open Classical in
noncomputable def difO (m : Mk) (s : Nat) (o : Mk) (p : Nat) : Option Nat := if ∃ k, dif m s o p k then some (lst (dif m s o p)) else none
section
variable {m o : Mk} (hm : m.Ok) (ho : o.Ok) {s p : Nat} (hs : s < m.size) (hp : p < o.size)
include hm ho hs hp
theorem difE_spec : (dif m s o p (difE m s o p) ∨ again (pst m s o p) (difE m s o p)) ∧ ∀ k, k < difE m s o p → ¬ dif m s o p k ∧ ¬ again (pst m s o p) k :=
  endOf_spec _ _ (let ⟨j, _, h⟩ := pst_again hm ho hs hp; ⟨j, h⟩)
theorem difE_le : difE m s o p ≤ m.size * o.size := let ⟨j, hj, h⟩ := pst_again hm ho hs hp; Nat.le_trans (again_le h) hj
theorem difE_stops : dif m s o p (difE m s o p) ∨ ¬ ∃ k, dif m s o p k := endOf_stops _ _ (let ⟨j, _, h⟩ := pst_again hm ho hs hp; ⟨j, h⟩) pst_det dif_st
theorem difO_some (h : dif m s o p (difE m s o p)) : difO m s o p = some (difE m s o p) := by
  have h2 := difE_spec hm ho hs hp
  have hl := lst_spec (P := dif m s o p) ⟨_, h⟩
  unfold difO
  rw [if_pos ⟨_, h⟩]
  congr 1
  have a : lst (dif m s o p) ≤ difE m s o p := lst_le h
  by_cases q : lst (dif m s o p) < difE m s o p
  · exact absurd hl.1 (h2.2 _ q).1
  · omega
theorem difO_none (h : ¬ dif m s o p (difE m s o p)) : difO m s o p = none := by
  have h2 := difE_stops hm ho hs hp
  unfold difO
  rw [if_neg (h2.resolve_left h)]
/-- alike so far is alike for ever -/
theorem alike_all (h : ∀ k, k ≤ m.size * o.size → ¬ dif m s o p k) : ∀ k, ¬ dif m s o p k := fun k hk => by
  have a := difE_stops hm ho hs hp
  rcases a with z | z
  · exact h _ (difE_le hm ho hs hp) z
  · exact z ⟨k, hk⟩
end
/-! ### where one may be -/
namespace Mk
variable {m : Mk}
def aft (m : Mk) (s k : Nat) : List Nat := m.atL (m.draw k s)
theorem aft_zero (m : Mk) (s : Nat) : m.aft s 0 = List.range m.size := rfl
theorem aft_succ (m : Mk) (s k : Nat) : m.aft s (k + 1) = m.nextL (m.aft s k) (m.face (m.go k s)) := by
  unfold aft atL
  rw [Mk.draw_succ, List.foldl_append]
  rfl
theorem mem_aft (h : m.Ok) {s k x : Nat} : x ∈ m.aft s k ↔ ∃ y, y < m.size ∧ m.draw k y = m.draw k s ∧ m.go k y = x := by
  unfold aft
  rw [mem_atL h]
  simp only [mem_fromL, Mk.draw_length]
  constructor
  · rintro ⟨y, ⟨a, b⟩, c⟩; exact ⟨y, a, b, c⟩
  · rintro ⟨y, a, b, c⟩; exact ⟨y, ⟨a, b⟩, c⟩
theorem aft_pw (m : Mk) (s k : Nat) : (m.aft s k).Pairwise (· < ·) := atL_pw m _
theorem aft_lt (h : m.Ok) {s k x : Nat} (hx : x ∈ m.aft s k) : x < m.size := atL_lt h hx
theorem aft_self (h : m.Ok) {s : Nat} (hs : s < m.size) (k : Nat) : m.go k s ∈ m.aft s k := (mem_aft h).mpr ⟨s, hs, rfl, rfl⟩
theorem aft_len (h : m.Ok) (s k : Nat) : (m.aft s k).length ≤ m.size := nodup_le _ _ (nodup_of_lt (aft_pw m s k)) fun x hx => aft_lt h hx
/-- a common period -/
structure Per (m : Mk) (P : Nat) : Prop where
  pos : 0 < P
  dv : ∀ x, x < m.size → m.rl x ∣ P
theorem Per.go {P : Nat} (p : Per m P) (h : m.Ok) {x : Nat} (hx : x < m.size) {i : Nat} (hi : m.size ≤ i) : m.go (i + P) x = m.go i x := by
  obtain ⟨q, e⟩ := p.dv x hx
  have ht := tl_rl_le h hx
  rw [e, Nat.mul_comm]
  exact go_mul h hx (by omega) q
theorem draw_iff {m o : Mk} : ∀ {k s p : Nat}, m.draw k s = o.draw k p ↔ ∀ i, i < k → ¬ dif m s o p i
  | 0, s, p => by simp [Mk.draw]
  | k + 1, s, p => by
    rw [Mk.draw_succ, Mk.draw_succ]
    constructor
    · intro e i hi
      have e2 := List.append_inj' e rfl
      have ih := (draw_iff (k := k) (s := s) (p := p)).mp e2.1
      by_cases q : i < k
      · exact ih i q
      · have : i = k := by omega
        subst this
        have := e2.2
        simp at this
        exact fun z => z this
    · intro h
      have a := (draw_iff (k := k) (s := s) (p := p)).mpr fun i hi => h i (by omega)
      have b := h k (by omega)
      unfold dif at b
      rw [a, Classical.not_not.mp b]
theorem mem_aft_late (h : m.Ok) {s : Nat} (hs : s < m.size) {k : Nat} (hk : m.size * m.size < k) {x : Nat} : x ∈ m.aft s k ↔ ∃ y, y < m.size ∧ (∀ i, ¬ dif m y m s i) ∧ m.go k y = x := by
  rw [mem_aft h]
  constructor
  · rintro ⟨y, hy, e, g⟩
    exact ⟨y, hy, alike_all h h hy hs fun i hi => draw_iff.mp e i (by omega), g⟩
  · rintro ⟨y, hy, e, g⟩
    exact ⟨y, hy, draw_iff.mpr fun i _ => e i, g⟩
theorem aft_per {P : Nat} (p : Per m P) (h : m.Ok) {s : Nat} (hs : s < m.size) {k : Nat} (hk : m.size * m.size < k) (hk2 : m.size ≤ k) : m.aft s (k + P) = m.aft s k := by
  refine natlt_uniq (aft_pw m s _) (aft_pw m s _) fun x => ?_
  rw [mem_aft_late h hs (by omega), mem_aft_late h hs hk]
  constructor
  · rintro ⟨y, hy, e, g⟩
    exact ⟨y, hy, e, by rw [← g, p.go h hy hk2]⟩
  · rintro ⟨y, hy, e, g⟩
    exact ⟨y, hy, e, by rw [← g, p.go h hy hk2]⟩
/-- the states of sure -/
def sst (m : Mk) (s k : Nat) : NestedKey := .tup [rowK (m.aft s k), .num (m.go k s)]
def one (m : Mk) (s k : Nat) : Prop := (m.aft s k).length ≤ 1
noncomputable def surE (m : Mk) (s : Nat) : Nat := endOf (m.sst s) (m.one s)
theorem sst_det {s : Nat} (i j : Nat) (e : m.sst s i = m.sst s j) : m.sst s (i + 1) = m.sst s (j + 1) := by
  obtain ⟨a, b⟩ := rn_inj e
  unfold sst
  rw [aft_succ, aft_succ, go_succ, go_succ, a, b]
theorem one_st {s : Nat} (i j : Nat) (e : m.sst s i = m.sst s j) : m.one s i ↔ m.one s j := by
  obtain ⟨a, b⟩ := rn_inj e
  unfold one
  rw [a]
theorem sst_again {P : Nat} (p : Per m P) (h : m.Ok) {s : Nat} (hs : s < m.size) : again (m.sst s) (m.size * m.size + 1 + m.size + P) := by
  have hp := p.pos
  refine ⟨m.size * m.size + 1 + m.size, by omega, ?_⟩
  unfold sst
  rw [aft_per p h hs (by omega) (by omega), p.go h hs (by omega)]
open Classical in
noncomputable def sureO (m : Mk) (s : Nat) : Option Nat := if ∃ k, m.one s k then some (lst (m.one s)) else none
section
variable {P : Nat} (p : Per m P) (h : m.Ok) {s : Nat} (hs : s < m.size)
include p h hs
theorem surE_le : m.surE s ≤ m.size * m.size + 1 + m.size + P := again_le (sst_again p h hs)
theorem surE_spec : (m.one s (m.surE s) ∨ again (m.sst s) (m.surE s)) ∧ ∀ k, k < m.surE s → ¬ m.one s k ∧ ¬ again (m.sst s) k := endOf_spec _ _ ⟨_, sst_again p h hs⟩
theorem sureO_some (q : m.one s (m.surE s)) : m.sureO s = some (m.surE s) := by
  have h2 := surE_spec p h hs
  have hl := lst_spec (P := m.one s) ⟨_, q⟩
  unfold sureO
  rw [if_pos ⟨_, q⟩]
  congr 1
  have a : lst (m.one s) ≤ m.surE s := lst_le q
  by_cases z : lst (m.one s) < m.surE s
  · exact absurd hl.1 (h2.2 _ z).1
  · omega
theorem sureO_none (q : ¬ m.one s (m.surE s)) : m.sureO s = none := by
  have h2 : m.one s (m.surE s) ∨ ¬ ∃ k, m.one s k := endOf_stops _ _ ⟨_, sst_again p h hs⟩ sst_det one_st
  unfold sureO
  rw [if_neg (h2.resolve_left q)]
end
/-! ### a period that is not too long -/
theorem dvd_prod : ∀ {l : List Nat} {x : Nat}, x ∈ l → x ∣ l.foldr (· * ·) 1
  | a :: l, x, h => by
    rcases List.mem_cons.mp h with rfl | h
    · exact Nat.dvd_mul_right ..
    · exact Nat.dvd_trans (dvd_prod h) (Nat.dvd_mul_left ..)
theorem cube_le : ∀ p : Nat, p ≤ 64 → p ^ 3 ≤ 3 ^ p := by decide
theorem prod_cube : ∀ {l : List Nat}, (∀ x ∈ l, x ≤ 64) → (l.foldr (· * ·) 1) ^ 3 ≤ 3 ^ l.sum
  | [], _ => by simp
  | a :: l, h => by
    have ih := prod_cube (l := l) fun x hx => h x (List.mem_cons_of_mem _ hx)
    have h1 := cube_le a (h a (List.mem_cons_self ..))
    rw [List.foldr_cons, Nat.mul_pow, List.sum_cons, Nat.pow_add]
    exact Nat.mul_le_mul h1 ih
theorem prod_pos : ∀ {l : List Nat}, (∀ x ∈ l, 1 ≤ x) → 0 < l.foldr (· * ·) 1
  | [], _ => by simp
  | a :: l, h => by
    rw [List.foldr_cons]
    exact Nat.mul_pos (h a (List.mem_cons_self ..)) (prod_pos fun x hx => h x (List.mem_cons_of_mem _ hx))
theorem per_rounds (h : m.Ok) : ∃ P, Per m P ∧ P ^ 3 ≤ 3 ^ m.size := by
  refine ⟨((m.heads m.size).map m.rl).foldr (· * ·) 1, ⟨prod_pos fun x hx => ?_, fun x hx => ?_⟩, ?_⟩
  · obtain ⟨y, hy, rfl⟩ := List.mem_map.mp hx
    exact rl_pos h (mem_heads.mp hy).1
  · have hg := h.go_lt (m.tl x) hx
    have h1 := tl_go h hx (m.tl x)
    obtain ⟨y, hy, hb, hc, _⟩ := head_ex h hg (by rw [h1.1]; omega)
    have e : m.rl x = m.rl y := by
      rw [← h1.2]
      exact (cyc_tl h hy (head_iff.mp hb).1 hc).2
    rw [e]
    exact dvd_prod (List.mem_map.mpr ⟨y, mem_heads.mpr ⟨hy, hb⟩, rfl⟩)
  · have hs := rds_sum h
    have e : (m.rds).map List.length = (m.heads m.size).map m.rl := by simp [rds, Function.comp_def, cyc_length]
    rw [e] at hs
    refine Nat.le_trans (prod_cube fun x hx => ?_) (Nat.pow_le_pow_right (by decide) hs)
    obtain ⟨y, hy, rfl⟩ := List.mem_map.mp hx
    have := tl_rl_le h (mem_heads.mp hy).1
    have := h.size_le
    omega
theorem per_small (h : m.Ok) (hz : m.size ≤ 45) : ∃ P, Per m P ∧ P ≤ 16000000 := by
  obtain ⟨P, p, hc⟩ := per_rounds h
  refine ⟨P, p, ?_⟩
  by_cases q : P ≤ 16000000
  · exact q
  · have h1 : 16000000 ^ 3 ≤ P ^ 3 := Nat.pow_le_pow_left (by omega) 3
    have h2 : 3 ^ m.size ≤ 3 ^ 45 := Nat.pow_le_pow_right (by decide) hz
    have h3 : (3 : Nat) ^ 45 < 16000000 ^ 3 := by decide
    omega
/-- bits: found by reckoning -/
def PT : Nat := 7608434000728254870
def st6 (k y : Nat) : Nat := Nat.add (Nat.mod (Nat.mul 2 y) 64) (Nat.mod (Nat.shiftRight PT (Nat.land y k)) 2)
def mask : List Nat → Nat
  | [] => 0
  | t :: ts => 2 ^ t + mask ts
theorem st6_all : ((pows 6).all fun ts => (List.range 64).all fun y => st6 (mask ts) y == 2 * y % 2 ^ 6 + odd ts y) = true := by decide +kernel
def force (n : Nat) (f : Nat → Bool) : Bool := Nat.rec (f 0) (fun k _ => f (k + 1)) n
theorem force_eq (n : Nat) (f : Nat → Bool) : force n f = f n := by cases n <;> rfl
/-- from y on, p steps behind y0: y0 comes again, p a divisor -/
def findP (k y0 : Nat) : Nat → Nat → Nat → Bool
  | 0, _, _ => false
  | f + 1, y, p => cond (Nat.beq y y0) (Nat.beq (Nat.mod 78120 p) 0) (force (st6 k y) fun z => findP k y0 f z (Nat.add p 1))
def chk6 (k : Nat) : Bool := (List.range 64).all fun x => force (st6 k (st6 k (st6 k (st6 k (st6 k (st6 k x)))))) fun y => force (st6 k y) fun z => findP k y 64 z 1
theorem chk6_0 : ((List.range 16).all fun k => chk6 k) = true := by decide +kernel
theorem chk6_1 : ((List.range 16).all fun k => chk6 (16 + k)) = true := by decide +kernel
theorem chk6_2 : ((List.range 16).all fun k => chk6 (32 + k)) = true := by decide +kernel
theorem chk6_3 : ((List.range 16).all fun k => chk6 (48 + k)) = true := by decide +kernel
theorem chk6_all {k : Nat} (h : k < 64) : chk6 k = true := by
  by_cases h1 : k < 16
  · exact List.all_eq_true.mp chk6_0 k (List.mem_range.mpr h1)
  · by_cases h2 : k < 32
    · have := List.all_eq_true.mp chk6_1 (k - 16) (List.mem_range.mpr (by omega))
      rwa [show 16 + (k - 16) = k by omega] at this
    · by_cases h3 : k < 48
      · have := List.all_eq_true.mp chk6_2 (k - 32) (List.mem_range.mpr (by omega))
        rwa [show 32 + (k - 32) = k by omega] at this
      · have := List.all_eq_true.mp chk6_3 (k - 48) (List.mem_range.mpr (by omega))
        rwa [show 48 + (k - 48) = k by omega] at this
theorem mask_all : ((pows 6).all fun ts => decide (mask ts < 64)) = true := by decide +kernel
theorem findP_ok {ts : List Nat} {c : Nat} (hst : ∀ y, y < 64 → st6 (mask ts) y = (Mk.bits 6 ts c).step y) (hlt : ∀ y, y < 64 → (Mk.bits 6 ts c).step y < 64) : ∀ (f y0 y p : Nat), 1 ≤ p → y < 64 → y = (Mk.bits 6 ts c).go p y0 → findP (mask ts) y0 f y p = true → ∃ q, 1 ≤ q ∧ (Mk.bits 6 ts c).go q y0 = y0 ∧ q ∣ 78120
  | 0, _, _, _, _, _, _, h => by simp [findP] at h
  | f + 1, y0, y, p, hp, hy, e, h => by
    unfold findP at h
    cases q : Nat.beq y y0 with
    | true =>
      rw [q] at h
      exact ⟨p, hp, by rw [← e]; exact Nat.eq_of_beq_eq_true q, Nat.dvd_of_mod_eq_zero (Nat.eq_of_beq_eq_true h)⟩
    | false =>
      rw [q] at h
      have h : force (st6 (mask ts) y) (fun z => findP (mask ts) y0 f z (Nat.add p 1)) = true := h
      rw [force_eq, hst y hy] at h
      exact findP_ok hst hlt f y0 _ (p + 1) (by omega) (hlt y hy) (by rw [go_succ, ← e]) h
theorem go_bits (b : Nat) (ts : List Nat) (c c' : Nat) : ∀ (k s : Nat), (Mk.bits b ts c).go k s = (Mk.bits b ts c').go k s
  | 0, _ => rfl
  | k + 1, s => go_bits b ts c c' k _
theorem per_bits6 {ts : List Nat} {c : Nat} (h : (Mk.bits 6 ts c).Ok) : Per (.bits 6 ts c) 78120 := by
  refine ⟨by decide, fun x hx => ?_⟩
  have hmem := mem_pows 6 h.2.2.2.1 h.2.2.2.2.1
  have hx64 : x < 64 := hx
  have hk : mask ts < 64 := of_decide_eq_true (List.all_eq_true.mp mask_all ts hmem)
  have hst : ∀ y, y < 64 → st6 (mask ts) y = (Mk.bits 6 ts c).step y := fun y hy => by
    have := List.all_eq_true.mp (List.all_eq_true.mp st6_all ts hmem) y (List.mem_range.mpr hy)
    exact eq_of_beq this
  have hlt : ∀ y, y < 64 → (Mk.bits 6 ts c).step y < 64 := fun y hy => h.step_lt hy
  have hc2 := List.all_eq_true.mp (chk6_all hk) x (List.mem_range.mpr hx64)
  have hg : ∀ k, (Mk.bits 6 ts c).go k x < 64 := fun k => h.go_lt k hx
  have e6 : st6 (mask ts) (st6 (mask ts) (st6 (mask ts) (st6 (mask ts) (st6 (mask ts) (st6 (mask ts) x))))) = (Mk.bits 6 ts c).go 6 x := by
    rw [hst x hx64, hst _ (hlt x hx64)]
    generalize hM : Mk.bits 6 ts c = M at *
    have a2 : M.step (M.step x) < 64 := hg 2
    have a3 : M.step (M.step (M.step x)) < 64 := hg 3
    have a4 : M.step (M.step (M.step (M.step x))) < 64 := hg 4
    have a5 : M.step (M.step (M.step (M.step (M.step x)))) < 64 := hg 5
    rw [hst _ a2, hst _ a3, hst _ a4, hst _ a5]
    rfl
  rw [force_eq, e6, force_eq, hst _ (hg 6)] at hc2
  obtain ⟨q, hq, e, hd⟩ := findP_ok (c := c) hst hlt 64 _ _ 1 (Nat.le_refl _) (hlt _ (hg 6)) rfl hc2
  rw [← go_add] at e
  have := (orb h hx (i := 6) (j := 6 + q) (by omega)).mp e.symm
  rw [Nat.add_sub_cancel_left] at this
  exact Nat.dvd_trans this.2 hd
theorem per_bits {b : Nat} {ts : List Nat} {c : Nat} (h : (Mk.bits b ts c).Ok) : ∃ P, Per (.bits b ts c) P ∧ P ≤ 16000000 := by
  by_cases q : b = 6
  · subst q
    exact ⟨_, per_bits6 h, by decide⟩
  · refine per_small h ?_
    show 2 ^ b ≤ 45
    have : 2 ^ b ≤ 2 ^ 5 := Nat.pow_le_pow_right (by decide) (by have := h.2.1; omega)
    omega
end Mk
end Dm
namespace Dm
open PySem L2 Fd
namespace Mk
variable {m : Mk}
theorem per_lm (h : m.Ok) {most : Nat} (hm : most ≤ 45) (k : m.size ≤ most ∨ ∃ b ts c, m = .bits b ts c) : ∃ P, Per m P ∧ P ≤ 16000000 := by
  rcases k with k | ⟨b, ts, c, rfl⟩
  · exact per_small h (by omega)
  · exact per_bits h
theorem aft_step (h : m.Ok) (s k : Nat) : (m.aft s (k + 1)).length ≤ (m.aft s k).length := by
  have hn := nodup_of_lt (aft_pw m s (k + 1))
  have := nodup_sub_len (l := m.aft s (k + 1)) (L := (m.aft s k).map m.step) hn fun x hx => by
    rw [aft_succ, mem_nextL h (fun y hy => aft_lt h hy)] at hx
    obtain ⟨y, hy, _, rfl⟩ := hx
    exact List.mem_map.mpr ⟨y, hy, rfl⟩
  simpa using this
theorem aft_mono (h : m.Ok) (s k : Nat) : ∀ j, (m.aft s (k + j)).length ≤ (m.aft s k).length
  | 0 => Nat.le_refl _
  | j + 1 => Nat.le_trans (aft_step h s (k + j)) (aft_mono h s k j)
theorem aft_pos (h : m.Ok) {s : Nat} (hs : s < m.size) (k : Nat) : 1 ≤ (m.aft s k).length := List.length_pos_of_mem (aft_self h hs k)
theorem sureO_spec {s k : Nat} (e : m.sureO s = some k) : m.one s k ∧ ∀ j, j < k → ¬ m.one s j := by
  unfold sureO at e
  split at e
  · rename_i q
    have := lst_spec (P := m.one s) q
    cases e
    exact this
  · cases e
theorem sureO_no {s : Nat} (e : m.sureO s = none) (k : Nat) : ¬ m.one s k := by
  unfold sureO at e
  split at e
  · cases e
  · rename_i q
    exact fun z => q ⟨k, z⟩
theorem sureO_of {s k : Nat} (h1 : m.one s k) (h2 : ∀ j, j < k → ¬ m.one s j) : m.sureO s = some k := by
  have hl := lst_spec (P := m.one s) ⟨k, h1⟩
  unfold sureO
  rw [if_pos ⟨k, h1⟩]
  congr 1
  have a : lst (m.one s) ≤ k := lst_le h1
  by_cases z : lst (m.one s) < k
  · exact absurd hl.1 (h2 _ z)
  · omega
theorem sureO_le {P : Nat} (p : Per m P) (h : m.Ok) {s k : Nat} (hs : s < m.size) (e : m.sureO s = some k) : k ≤ m.size * m.size + 1 + m.size + P := by
  by_cases q : m.one s (m.surE s)
  · rw [sureO_some p h hs q] at e
    cases e
    exact surE_le p h hs
  · rw [sureO_none p h hs q] at e
    cases e
end Mk
end Dm
end
section
set_option Elab.async false
set_option linter.all false
set_option maxRecDepth 100000
set_option autoImplicit false
set_option maxHeartbeats 4000000
/-! Ear: what ever differs, differs soon; plain. -/
namespace Dm
open PySem L2 Fd
section
variable {A : Type} (st : A → A) (fc : A → Nat)
def it : Nat → A → A
  | 0, a => a
  | k + 1, a => it k (st a)
theorem it_succ : ∀ (k : Nat) (a : A), it st (k + 1) a = st (it st k a)
  | 0, _ => rfl
  | k + 1, a => it_succ k (st a)
theorem it_add : ∀ (j k : Nat) (a : A), it st (j + k) a = it st k (it st j a)
  | 0, k, a => by rw [Nat.zero_add]; rfl
  | j + 1, k, a => by rw [show j + 1 + k = (j + k) + 1 by omega]; exact it_add j k (st a)
/-- alike for k faces -/
def Eq_ (k : Nat) (a b : A) : Prop := ∀ i, i < k → fc (it st i a) = fc (it st i b)
theorem Eq_.mono {j k : Nat} {a b : A} (h : Eq_ st fc k a b) (hj : j ≤ k) : Eq_ st fc j a b := fun i hi => h i (by omega)
theorem Eq_.symm {k : Nat} {a b : A} (h : Eq_ st fc k a b) : Eq_ st fc k b a := fun i hi => (h i hi).symm
theorem Eq_.trans {k : Nat} {a b c : A} (h : Eq_ st fc k a b) (h' : Eq_ st fc k b c) : Eq_ st fc k a c := fun i hi => (h i hi).trans (h' i hi)
theorem reps {L : List A} (hL : ∀ x ∈ L, st x ∈ L) {a b : A} (ha : a ∈ L) (hb : b ∈ L) {k : Nat} (hE : Eq_ st fc k a b) (hn : fc (it st k a) ≠ fc (it st k b)) :
    ∀ j, j ≤ k + 1 → ∃ S : List A, S.length = j + 1 ∧ (∀ x ∈ S, x ∈ L) ∧ S.Pairwise (fun x y => ¬ Eq_ st fc j x y) := by
  have inL : ∀ (i : Nat) (x : A), x ∈ L → it st i x ∈ L := by
    intro i
    induction i with
    | zero => intro x hx; exact hx
    | succ i ih => intro x hx; exact ih (st x) (hL x hx)
  intro j
  induction j with
  | zero => intro _; exact ⟨[a], rfl, by simpa using ha, by simp⟩
  | succ j ih =>
    intro hj
    obtain ⟨S, hl, hS, hp⟩ := ih (by omega)
    -- a pair that is alike for j faces, not for j + 1
    obtain ⟨u, v, hu, hv, e1, e2⟩ : ∃ u v, u ∈ L ∧ v ∈ L ∧ Eq_ st fc j u v ∧ ¬ Eq_ st fc (j + 1) u v := by
      refine ⟨it st (k - j) a, it st (k - j) b, inL _ _ ha, inL _ _ hb, fun i hi => ?_, fun z => hn ?_⟩
      · rw [← it_add, ← it_add]
        exact hE _ (by omega)
      · have := z j (by omega)
        rw [← it_add, ← it_add, show k - j + j = k by omega] at this
        exact this
    have up : S.Pairwise (fun x y => ¬ Eq_ st fc (j + 1) x y) := hp.imp fun h z => h (z.mono _ _ (by omega))
    by_cases q : ∃ r ∈ S, Eq_ st fc j r u
    · obtain ⟨r, hr, er⟩ := q
      obtain ⟨w, hw, ew, nw⟩ : ∃ w, w ∈ L ∧ Eq_ st fc j r w ∧ ¬ Eq_ st fc (j + 1) r w := by
        by_cases z : Eq_ st fc (j + 1) r u
        · exact ⟨v, hv, er.trans _ _ e1, fun y => e2 ((z.symm _ _).trans _ _ y)⟩
        · exact ⟨u, hu, er, z⟩
      refine ⟨w :: S, by simp [hl], fun x hx => ?_, List.pairwise_cons.mpr ⟨fun x hx z => ?_, up⟩⟩
      · rcases List.mem_cons.mp hx with rfl | hx
        · exact hw
        · exact hS x hx
      · -- x alike with w, so with r
        have z1 : Eq_ st fc j r x := ew.trans _ _ (z.mono _ _ (by omega))
        by_cases e : x = r
        · subst e
          exact nw (z.symm _ _)
        · rcases List.pairwise_iff_getElem.mp hp with hpw
          obtain ⟨i1, h1, e1'⟩ := List.mem_iff_getElem.mp hr
          obtain ⟨i2, h2, e2'⟩ := List.mem_iff_getElem.mp hx
          have : i1 ≠ i2 := fun z => e (by subst z; rw [← e2', e1'])
          by_cases lt : i1 < i2
          · exact hpw i1 i2 h1 h2 lt (by rw [e1', e2']; exact z1)
          · exact hpw i2 i1 h2 h1 (by omega) (by rw [e1', e2']; exact z1.symm _ _)
    · refine ⟨u :: S, by simp [hl], fun x hx => ?_, List.pairwise_cons.mpr ⟨fun x hx z => ?_, up⟩⟩
      · rcases List.mem_cons.mp hx with rfl | hx
        · exact hu
        · exact hS x hx
      · exact q ⟨x, hx, (z.symm _ _).mono _ _ (by omega)⟩
theorem early {L : List A} (hL : ∀ x ∈ L, st x ∈ L) {a b : A} (ha : a ∈ L) (hb : b ∈ L) {k : Nat} (hE : Eq_ st fc k a b) (hn : fc (it st k a) ≠ fc (it st k b)) : k + 2 ≤ L.length := by
  obtain ⟨S, hl, hS, hp⟩ := reps st fc hL ha hb hE hn (k + 1) (Nat.le_refl _)
  have nd : S.Nodup := hp.imp fun {x y} h e => h (by subst e; exact fun _ _ => rfl)
  have := nodup_sub_len nd hS
  omega
end
/-! ### makers -/
def bst (m o : Mk) : Nat ⊕ Nat → Nat ⊕ Nat
  | .inl s => .inl (m.step s)
  | .inr s => .inr (o.step s)
def bfc (m o : Mk) : Nat ⊕ Nat → Nat
  | .inl s => m.face s
  | .inr s => o.face s
theorem bit_l (m o : Mk) : ∀ (k s : Nat), it (bst m o) k (.inl s) = .inl (m.go k s)
  | 0, _ => rfl
  | k + 1, s => bit_l m o k (m.step s)
theorem bit_r (m o : Mk) : ∀ (k s : Nat), it (bst m o) k (.inr s) = .inr (o.go k s)
  | 0, _ => rfl
  | k + 1, s => bit_r m o k (o.step s)
theorem dif_early {m o : Mk} (hm : m.Ok) (ho : o.Ok) {s p : Nat} (hs : s < m.size) (hp : p < o.size) {k : Nat} (h1 : ∀ i, i < k → ¬ dif m s o p i) (h2 : dif m s o p k) : k + 2 ≤ m.size + o.size := by
  have := early (bst m o) (bfc m o) (L := (List.range m.size).map .inl ++ (List.range o.size).map .inr) (a := .inl s) (b := .inr p) (k := k) (fun x hx => by
    rcases List.mem_append.mp hx with z | z
    · obtain ⟨y, hy, rfl⟩ := List.mem_map.mp z
      exact List.mem_append_left _ (List.mem_map.mpr ⟨_, List.mem_range.mpr (hm.step_lt (List.mem_range.mp hy)), rfl⟩)
    · obtain ⟨y, hy, rfl⟩ := List.mem_map.mp z
      exact List.mem_append_right _ (List.mem_map.mpr ⟨_, List.mem_range.mpr (ho.step_lt (List.mem_range.mp hy)), rfl⟩)) (List.mem_append_left _ (List.mem_map.mpr ⟨s, List.mem_range.mpr hs, rfl⟩)) (List.mem_append_right _ (List.mem_map.mpr ⟨p, List.mem_range.mpr hp, rfl⟩)) (fun i hi => by
      rw [bit_l, bit_r]
      exact Classical.not_not.mp (h1 i hi)) (by
      rw [bit_l, bit_r]
      exact h2)
  simpa using this
theorem it_go (m : Mk) : ∀ (k s : Nat), it m.step k s = m.go k s
  | 0, _ => rfl
  | k + 1, s => it_go m k (m.step s)
theorem dif_early1 {m : Mk} (hm : m.Ok) {s p : Nat} (hs : s < m.size) (hp : p < m.size) {k : Nat} (h1 : ∀ i, i < k → ¬ dif m s m p i) (h2 : dif m s m p k) : k + 2 ≤ m.size := by
  have := early m.step m.face (L := List.range m.size) (a := s) (b := p) (k := k) (fun x hx => List.mem_range.mpr (hm.step_lt (List.mem_range.mp hx))) (List.mem_range.mpr hs) (List.mem_range.mpr hp) (fun i hi => by
      rw [it_go, it_go]
      exact Classical.not_not.mp (h1 i hi)) (by
      rw [it_go, it_go]
      exact h2)
  simpa using this
theorem dif_never {m o : Mk} (hm : m.Ok) (ho : o.Ok) {s p : Nat} (hs : s < m.size) (hp : p < o.size) (h : ∀ i, i < m.size + o.size → ¬ dif m s o p i) : ∀ i, ¬ dif m s o p i := fun i hi => by
  have hl := lst_spec (P := dif m s o p) ⟨i, hi⟩
  have := dif_early hm ho hs hp hl.2 hl.1
  exact h _ (by omega) hl.1
theorem dif_never1 {m : Mk} (hm : m.Ok) {s p : Nat} (hs : s < m.size) (hp : p < m.size) (h : ∀ i, i < m.size → ¬ dif m s m p i) : ∀ i, ¬ dif m s m p i := fun i hi => by
  have hl := lst_spec (P := dif m s m p) ⟨i, hi⟩
  have := dif_early1 hm hs hp hl.2 hl.1
  exact h _ (by omega) hl.1
theorem difO_lt {m o : Mk} (hm : m.Ok) (ho : o.Ok) {s p : Nat} (hs : s < m.size) (hp : p < o.size) {k : Nat} (e : difO m s o p = some k) : k + 2 ≤ m.size + o.size ∧ dif m s o p k ∧ ∀ i, i < k → ¬ dif m s o p i := by
  unfold difO at e
  split at e
  · rename_i q
    have hl := lst_spec (P := dif m s o p) q
    cases e
    exact ⟨dif_early hm ho hs hp hl.2 hl.1, hl.1, hl.2⟩
  · cases e
theorem difO_no {m o : Mk} {s p : Nat} (e : difO m s o p = none) (k : Nat) : ¬ dif m s o p k := by
  unfold difO at e
  split at e
  · cases e
  · rename_i q
    exact fun z => q ⟨k, z⟩
namespace Mk
variable {m : Mk}
theorem go_inj0 (h : m.Ok) {x y d : Nat} (hx : x < m.size) (hy : y < m.size) (tx : m.tl x = 0) (ty : m.tl y = 0) (e : m.go d x = m.go d y) : x = y := by
  have px := rl_pos h hx
  have py := rl_pos h hy
  have ex : m.go (d * m.rl y * m.rl x) x = x := by
    have := go_mul h hx (i := 0) (by omega) (d * m.rl y)
    rwa [Nat.zero_add] at this
  have ey : m.go (d * m.rl y * m.rl x) y = y := by
    have := go_mul h hy (i := 0) (by omega) (d * m.rl x)
    rw [Nat.zero_add] at this
    rw [Nat.mul_assoc, Nat.mul_comm (m.rl y), ← Nat.mul_assoc]
    exact this
  have hd : d ≤ d * m.rl y * m.rl x := by
    have h1 : d * 1 ≤ d * m.rl y := Nat.mul_le_mul_left _ py
    have h2 : d * m.rl y * 1 ≤ d * m.rl y * m.rl x := Nat.mul_le_mul_left _ px
    omega
  obtain ⟨c, hc⟩ := Nat.exists_eq_add_of_le hd
  rw [hc, go_add] at ex ey
  rw [← ex, ← ey, e]
theorem mem_aft_n (h : m.Ok) {s : Nat} (hs : s < m.size) {k : Nat} (hk : m.size ≤ k) {x : Nat} : x ∈ m.aft s k ↔ ∃ y, y < m.size ∧ (∀ i, ¬ dif m y m s i) ∧ m.go k y = x := by
  rw [mem_aft h]
  constructor
  · rintro ⟨y, hy, e, g⟩
    exact ⟨y, hy, dif_never1 h hy hs fun i hi => draw_iff.mp e i (by omega), g⟩
  · rintro ⟨y, hy, e, g⟩
    exact ⟨y, hy, draw_iff.mpr fun i _ => e i, g⟩
theorem one_early (h : m.Ok) {s : Nat} (hs : s < m.size) {k : Nat} (hk : m.one s k) : m.one s m.size ∨ k < m.size := by
  by_cases q : k < m.size
  · exact .inr q
  refine .inl ?_
  have tz : ∀ y, y < m.size → m.tl (m.go m.size y) = 0 := fun y hy => by
    rw [(tl_go h hy _).1]
    have := tl_rl_le h hy
    omega
  have all : ∀ x1, x1 ∈ m.aft s m.size → x1 = m.go m.size s := fun x1 h1 => by
    obtain ⟨y1, hy1, d1, rfl⟩ := (mem_aft_n h hs (Nat.le_refl _)).mp h1
    have a : m.go k y1 ∈ m.aft s k := (mem_aft_n h hs (by omega)).mpr ⟨y1, hy1, d1, rfl⟩
    have b := aft_self h hs k
    have e : m.go k y1 = m.go k s := by
      have hk : (m.aft s k).length ≤ 1 := hk
      generalize m.aft s k = L at a b hk
      cases L with
      | nil => cases a
      | cons z L =>
        have : L = [] := by
          cases L with
          | nil => rfl
          | cons _ _ => simp at hk
        subst this
        simp at a b
        rw [a, b]
    obtain ⟨d, hd⟩ := Nat.exists_eq_add_of_le (show m.size ≤ k by omega)
    rw [hd, go_add, go_add] at e
    exact go_inj0 h (h.go_lt _ hy1) (h.go_lt _ hs) (tz y1 hy1) (tz s hs) e
  show (m.aft s m.size).length ≤ 1
  have := nodup_sub_len (L := [m.go m.size s]) (nodup_of_lt (aft_pw m s m.size)) fun x hx => by simp [all x hx]
  simpa using this
theorem sureO_n (h : m.Ok) {s k : Nat} (hs : s < m.size) (e : m.sureO s = some k) : k ≤ m.size := by
  obtain ⟨h1, h2⟩ := sureO_spec e
  rcases one_early h hs h1 with z | z
  · by_cases q : m.size < k
    · exact absurd z (h2 _ q)
    · omega
  · omega
end Mk
end Dm
end
section
set_option Elab.async false
set_option linter.all false
set_option maxRecDepth 100000
set_option autoImplicit false
set_option maxHeartbeats 4000000
/-! Row: all rows of so many faces; those that never come; plain. -/
namespace Dm
open PySem L2 Fd
/-- all rows of n faces below c, rising -/
def rowsN (c : Nat) : Nat → List (List Nat)
  | 0 => [[]]
  | n + 1 => (rowsN c n).flatMap fun r => (List.range c).map fun d => r ++ [d]
theorem mem_rowsN {c : Nat} : ∀ {n : Nat} {r : List Nat}, r ∈ rowsN c n ↔ r.length = n ∧ ∀ x ∈ r, x < c
  | 0, r => by
    simp [rowsN]
    rintro rfl
    simp
  | n + 1, r => by
    rw [rowsN, List.mem_flatMap]
    constructor
    · rintro ⟨q, hq, hr⟩
      obtain ⟨d, hd, rfl⟩ := List.mem_map.mp hr
      obtain ⟨h1, h2⟩ := mem_rowsN.mp hq
      refine ⟨by simp [h1], fun x hx => ?_⟩
      rcases List.mem_append.mp hx with z | z
      · exact h2 x z
      · simp at z; subst z; exact List.mem_range.mp hd
    · rintro ⟨h1, h2⟩
      have hne : r ≠ [] := by rintro rfl; simp at h1
      have e := List.dropLast_concat_getLast hne
      refine ⟨r.dropLast, mem_rowsN.mpr ⟨by simp [h1], fun x hx => h2 x (List.dropLast_subset r hx)⟩, List.mem_map.mpr ⟨r.getLast hne, List.mem_range.mpr (h2 _ (List.getLast_mem hne)), e⟩⟩
theorem append_lt {a b : List Nat} (h : a < b) (hl : a.length = b.length) (x y : List Nat) : a ++ x < b ++ y := by
  induction a generalizing b with
  | nil => cases b with
    | nil => exact absurd h (by simp)
    | cons _ _ => simp at hl
  | cons p a ih => cases b with
    | nil => simp at hl
    | cons q b =>
      rw [List.cons_append, List.cons_append, List.cons_lt_cons_iff]
      rcases List.cons_lt_cons_iff.mp h with z | ⟨z, w⟩
      · exact .inl z
      · exact .inr ⟨z, ih w (by simpa using hl)⟩
theorem append_lt_same (a : List Nat) {x y : List Nat} (h : x < y) : a ++ x < a ++ y := by
  induction a with
  | nil => exact h
  | cons p a ih => rw [List.cons_append, List.cons_append, List.cons_lt_cons_iff]; exact .inr ⟨rfl, ih⟩
theorem rowsN_rise (c : Nat) : ∀ n, (rowsN c n).Pairwise (· < ·)
  | 0 => by simp [rowsN]
  | n + 1 => by
    rw [rowsN, List.flatMap, List.pairwise_flatten]
    refine ⟨fun l hl => ?_, ?_⟩
    · obtain ⟨r, hr, rfl⟩ := List.mem_map.mp hl
      rw [List.pairwise_map]
      refine (List.pairwise_lt_range).imp fun {a b} h => append_lt_same r ?_
      rw [List.cons_lt_cons_iff]
      exact .inl h
    · rw [List.pairwise_map]
      refine (rowsN_rise c n).imp_of_mem fun {a b} ha hb h x hx y hy => ?_
      obtain ⟨d, _, rfl⟩ := List.mem_map.mp hx
      obtain ⟨e, _, rfl⟩ := List.mem_map.mp hy
      exact append_lt h ((mem_rowsN.mp ha).1.trans (mem_rowsN.mp hb).1.symm) _ _
theorem flatMap_len {A : Type} (f : A → List (List Nat)) (c : Nat) : ∀ (l : List A), (∀ x ∈ l, (f x).length = c) → (l.flatMap f).length = l.length * c
  | [], _ => by simp
  | a :: l, h => by
    have ih := flatMap_len f c l fun x hx => h x (List.mem_cons_of_mem _ hx)
    rw [List.flatMap_cons, List.length_append, ih, h a (List.mem_cons_self ..), List.length_cons, Nat.succ_mul]
    omega
theorem rowsN_len (c : Nat) : ∀ n, (rowsN c n).length = c ^ n
  | 0 => by simp [rowsN]
  | n + 1 => by rw [rowsN, flatMap_len _ c _ (fun x _ => by simp), rowsN_len c n, Nat.pow_succ]
theorem rowsN_le {c : Nat} (hc : c ≤ 6) {n : Nat} (hn : n ≤ 5) : (rowsN c n).length ≤ 7776 := by
  rw [rowsN_len]
  have h1 : c ^ n ≤ 6 ^ n := Nat.pow_le_pow_left hc n
  have h2 : 6 ^ n ≤ 6 ^ 5 := Nat.pow_le_pow_right (by decide) hn
  omega
namespace Mk
variable {m : Mk}
/-- the rows of n faces that never come -/
def nevL (m : Mk) (n : Nat) : List (List Nat) := (rowsN m.faces n).filter fun r => decide (m.fromL r = [])
theorem mem_nevL {n : Nat} {r : List Nat} : r ∈ m.nevL n ↔ (r.length = n ∧ ∀ x ∈ r, x < m.faces) ∧ m.fromL r = [] := by
  simp [nevL, mem_rowsN]
theorem nevL_rise (m : Mk) (n : Nat) : (m.nevL n).Pairwise (· < ·) := (rowsN_rise _ n).filter _
theorem nevL_le (h : m.Ok) {n : Nat} (hn : n ≤ 5) : (m.nevL n).length ≤ 7776 := Nat.le_trans (List.length_filter_le ..) (rowsN_le h.faces_le hn)
theorem fromL_none {r : List Nat} : m.fromL r = [] ↔ ∀ s, s < m.size → m.draw r.length s ≠ r := by
  constructor
  · intro e s hs z
    have : s ∈ m.fromL r := mem_fromL.mpr ⟨hs, z⟩
    rw [e] at this
    cases this
  · intro h
    cases q : m.fromL r with
    | nil => rfl
    | cons a l =>
      have := mem_fromL.mp (by rw [q]; exact List.mem_cons_self ..)
      exact absurd this.2 (h a this.1)
theorem none_snoc {r : List Nat} (h : m.fromL r = []) (d : Nat) : m.fromL (r ++ [d]) = [] := by
  rw [fromL_none] at h ⊢
  intro s hs e
  rw [List.length_append, List.length_singleton, Mk.draw_succ] at e
  exact h s hs (List.append_inj' e rfl).1
theorem none_cons (hm : m.Ok) {r : List Nat} (h : m.fromL r = []) (d : Nat) : m.fromL (d :: r) = [] := by
  rw [fromL_none] at h ⊢
  intro s hs e
  rw [List.length_cons] at e
  have e2 : m.face s :: m.draw r.length (m.step s) = d :: r := e
  exact h _ (hm.step_lt hs) (List.cons.inj e2).2
/-- the first that never comes, of lengths from a to a + k - 1 -/
def firstN (m : Mk) : Nat → Nat → Option (List Nat)
  | 0, _ => none
  | k + 1, a => if m.nevL a = [] then firstN m k (a + 1) else (m.nevL a).head?
theorem firstN_some : ∀ {k a : Nat} {r : List Nat}, m.firstN k a = some r → a ≤ r.length ∧ r.length < a + k ∧ r ∈ m.nevL r.length ∧ (m.nevL r.length).head? = some r ∧ ∀ j, a ≤ j → j < r.length → m.nevL j = []
  | 0, a, r, h => by simp [firstN] at h
  | k + 1, a, r, h => by
    unfold firstN at h
    split at h
    · rename_i q
      obtain ⟨h1, h2, h3, h4, h5⟩ := firstN_some h
      refine ⟨by omega, by omega, h3, h4, fun j h6 h7 => ?_⟩
      by_cases e : j = a
      · subst e; exact q
      · exact h5 j (by omega) h7
    · have hm : r ∈ m.nevL a := List.mem_of_head? h
      have hl := (mem_nevL.mp hm).1.1
      rw [hl]
      exact ⟨Nat.le_refl _, by omega, hm, h, fun j h6 h7 => absurd h7 (by omega)⟩
theorem firstN_none : ∀ {k a : Nat}, m.firstN k a = none → ∀ j, a ≤ j → j < a + k → m.nevL j = []
  | 0, a, _, j, h1, h2 => absurd h2 (by omega)
  | k + 1, a, h, j, h1, h2 => by
    unfold firstN at h
    split at h
    · rename_i q
      by_cases e : j = a
      · subst e; exact q
      · exact firstN_none h j (by omega) (by omega)
    · rename_i q
      cases e : m.nevL a with
      | nil => exact absurd e q
      | cons x l => rw [e] at h; simp at h
end Mk
/-! ### dicts of keys -/
theorem hasK_put (kvs : KVs) (k x : NestedKey) (d : PyData) : hasK (putD kvs k d) x = true ↔ hasK kvs x = true ∨ x = k := by
  rw [hasK_mem, putD_keys, hasK_mem kvs x]
  split
  · rename_i q
    rw [hasK_mem] at q
    constructor
    · exact .inl
    · rintro (z | rfl)
      · exact z
      · exact q
  · simp
theorem hasK_putAll : ∀ (ps kvs : KVs) (x : NestedKey), hasK (putAll kvs ps) x = true ↔ hasK kvs x = true ∨ x ∈ ps.map (·.1)
  | [], kvs, x => by simp [putAll]
  | p :: ps, kvs, x => by
    show hasK (putAll (putD kvs p.1 p.2) ps) x = true ↔ _
    rw [hasK_putAll ps, hasK_put]
    simp only [List.map_cons, List.mem_cons]
    constructor
    · rintro ((a | b) | c)
      · exact .inl a
      · exact .inr (.inl b)
      · exact .inr (.inr c)
    · rintro (a | b | c)
      · exact .inl (.inl a)
      · exact .inl (.inr b)
      · exact .inr c
mutual
theorem keyOf_of : ∀ k : NestedKey, goodK.okK k = true → Fd.keyOf k.data = some k
  | .none, _ => by simp [NestedKey.data, Fd.keyOf]
  | .num i, _ => by simp [NestedKey.data, Fd.keyOf]
  | .text x, h => by simp [goodK.okK] at h
  | .tup ks, h => by
    simp only [goodK.okK] at h
    simp only [NestedKey.data, Fd.keyOf]
    rw [keysOf_of ks h]
    rfl
theorem keysOf_of : ∀ ks : List NestedKey, goodK.okKs ks = true → Fd.keysOf (NestedKey.datas ks) = some ks
  | [], _ => by simp [NestedKey.datas, Fd.keysOf]
  | k :: ks, h => by
    simp only [goodK.okKs, Bool.and_eq_true] at h
    simp only [NestedKey.datas, Fd.keysOf]
    rw [keyOf_of k h.1, keysOf_of ks h.2]
end
theorem data_inj {a b : NestedKey} (ga : goodK a = true) (gb : goodK b = true) (e : a.data = b.data) : a = b := by
  have h1 := keyOf_of a (goodK_of ga).1
  have h2 := keyOf_of b (goodK_of gb).1
  rw [e, h2] at h1
  exact (Option.some.inj h1).symm
theorem eqvAll_rows' : ∀ l : List (List Nat), PyData.eqvAll (l.map fun r => PyData.tuple (nats r)) (l.map fun r => PyData.tuple (nats r)) = true
  | [] => by simp
  | r :: l => by simp [eqvAll_rows' l, eqvAll_nats]
theorem rowK_data (l : List Nat) : (rowK l).data = .tuple (nats l) := by
  have h := keyOf_data _ _ (keyD_of (keyD_row l)).1
  exact h
theorem rowK_good (l : List Nat) : goodK (rowK l) = true := (keyD_of (keyD_row l)).2
theorem rowsD_cons (r : List Nat) (l : List (List Nat)) : ((r :: l).map fun r => PyData.tuple (nats r)) = PyData.tuple (nats r) :: (l.map fun r => PyData.tuple (nats r)) := rfl
theorem has_rows (l : List (List Nat)) (r : List Nat) : hasD (l.map fun r => PyData.tuple (nats r)) (.tuple (nats r)) = decide (r ∈ l) := by
  unfold hasD
  rw [Bool.eq_iff_iff]
  simp [eqvAll_nats]
end Dm
end
section
set_option Elab.async false
set_option linter.all false
set_option maxRecDepth 100000
set_option autoImplicit false
set_option maxHeartbeats 4000000
/-! Shr: how often rows come in a round, as fractions, in plain Lean. -/
namespace Dm
open PySem L2 Fd PySem.W
/-! ### fractions -/
def fr1 (a b : Nat) : Nat := a / Nat.gcd a b
def fr2 (a b : Nat) : Nat := b / Nat.gcd a b
def frD (a b : Nat) : PyData := .tuple [nat (fr1 a b), nat (fr2 a b)]
theorem fr_mul (a : Nat) {b : Nat} (hb : 0 < b) : ∃ g, 0 < g ∧ a = g * fr1 a b ∧ b = g * fr2 a b ∧ Nat.Coprime (fr1 a b) (fr2 a b) := by
  have hg : 0 < Nat.gcd a b := Nat.gcd_pos_of_pos_right _ hb
  refine ⟨Nat.gcd a b, hg, ?_, ?_, ?_⟩
  · exact (Nat.mul_div_cancel' (Nat.gcd_dvd_left a b)).symm
  · exact (Nat.mul_div_cancel' (Nat.gcd_dvd_right a b)).symm
  · exact Nat.coprime_div_gcd_div_gcd hg
theorem fr2_pos (a : Nat) {b : Nat} (hb : 0 < b) : 0 < fr2 a b := by
  obtain ⟨g, hg, _, e, _⟩ := fr_mul a hb
  apply Nat.pos_of_ne_zero
  intro z
  rw [z] at e
  simp at e
  omega
theorem fr1_pos {a b : Nat} (ha : 0 < a) (hb : 0 < b) : 0 < fr1 a b := by
  obtain ⟨g, hg, e, _, _⟩ := fr_mul a hb
  apply Nat.pos_of_ne_zero
  intro z
  rw [z] at e
  simp at e
  omega
theorem fr1_le (a b : Nat) : fr1 a b ≤ a := Nat.div_le_self _ _
theorem fr2_le (a b : Nat) : fr2 a b ≤ b := Nat.div_le_self _ _
theorem fr_cross (a : Nat) {b : Nat} (hb : 0 < b) : fr1 a b * b = a * fr2 a b := by
  obtain ⟨g, hg, e1, e2, _⟩ := fr_mul a hb
  generalize fr1 a b = x at *
  generalize fr2 a b = y at *
  subst e1 e2
  simp [Nat.mul_comm, Nat.mul_left_comm, Nat.mul_assoc]
theorem fr_eq {a b c d : Nat} (hb : 0 < b) (hd : 0 < d) (h : a * d = c * b) : fr1 a b = fr1 c d ∧ fr2 a b = fr2 c d := by
  obtain ⟨g, hg, e1, e2, h1⟩ := fr_mul a hb
  obtain ⟨k, hk, e3, e4, h2⟩ := fr_mul c hd
  have p1 := fr2_pos a hb
  have p2 := fr2_pos c hd
  generalize fr1 a b = x at *
  generalize fr2 a b = y at *
  generalize fr1 c d = u at *
  generalize fr2 c d = v at *
  have e : x * v = u * y := by
    rw [e1, e2, e3, e4] at h
    have : (g * k) * (x * v) = (g * k) * (u * y) := by
      rw [show (g * k) * (x * v) = g * x * (k * v) by simp [Nat.mul_comm, Nat.mul_left_comm], h]
      simp [Nat.mul_comm, Nat.mul_left_comm]
    exact Nat.eq_of_mul_eq_mul_left (Nat.mul_pos hg hk) this
  have d1 : y ∣ v := h1.symm.dvd_of_dvd_mul_left ⟨u, by rw [e, Nat.mul_comm]⟩
  have d2 : v ∣ y := h2.symm.dvd_of_dvd_mul_left ⟨x, by rw [← e, Nat.mul_comm]⟩
  have ey : y = v := Nat.dvd_antisymm d1 d2
  subst ey
  exact ⟨Nat.eq_of_mul_eq_mul_right p1 e, rfl⟩
theorem frD_eq {a b c d : Nat} (hb : 0 < b) (hd : 0 < d) (h : a * d = c * b) : frD a b = frD c d := by
  have := fr_eq hb hd h
  rw [frD, frD, this.1, this.2]
theorem frD_idem (a : Nat) {b : Nat} (hb : 0 < b) : frD (fr1 a b) (fr2 a b) = frD a b := frD_eq (fr2_pos a hb) hb (fr_cross a hb)
theorem frD_zero {b : Nat} (hb : 0 < b) : frD 0 b = .tuple [nat 0, nat 1] := by
  have : b / b = 1 := Nat.div_self hb
  simp [frD, fr1, fr2, this]
theorem fr_lt {a b D : Nat} (hD : 0 < D) : fr1 a D * fr2 b D < fr1 b D * fr2 a D ↔ a < b := by
  have ca := fr_cross a hD
  have cb := fr_cross b hD
  have pa := fr2_pos a hD
  have pb := fr2_pos b hD
  generalize fr1 a D = x at *
  generalize fr2 a D = y at *
  generalize fr1 b D = u at *
  generalize fr2 b D = v at *
  have e1 : (x * v) * D = a * (y * v) := by rw [Nat.mul_right_comm, ca, Nat.mul_assoc]
  have e2 : (u * y) * D = b * (y * v) := by rw [Nat.mul_right_comm, cb, Nat.mul_assoc, Nat.mul_comm v y]
  constructor
  · intro h
    have := Nat.mul_lt_mul_of_pos_right h hD
    rw [e1, e2] at this
    exact Nat.lt_of_mul_lt_mul_right this
  · intro h
    have := Nat.mul_lt_mul_of_pos_right h (Nat.mul_pos pa pb)
    rw [← e1, ← e2] at this
    exact Nat.lt_of_mul_lt_mul_right this
theorem abs_nat (i : Int) : (if i < 0 then -i else i) = ((i.natAbs : Nat) : Int) := by split <;> omega
/-- how far c of L is from one of p -/
def fard (c L p : Nat) : Nat := ((c : Int) * (p : Int) - (L : Int)).natAbs
theorem fard_fr (c : Nat) {L p : Nat} (hL : 0 < L) : fard (fr1 c L) (fr2 c L) p * L = fard c L p * fr2 c L := by
  have e := fr_cross c hL
  generalize fr1 c L = x at *
  generalize fr2 c L = y at *
  have ei : (x : Int) * L = c * y := by exact_mod_cast e
  unfold fard
  rw [← Int.natAbs_natCast L, ← Int.natAbs_mul, Int.natAbs_natCast, ← Int.natAbs_natCast y, ← Int.natAbs_mul, Int.natAbs_natCast]
  congr 1
  rw [Int.sub_mul, Int.sub_mul, Int.mul_right_comm, ei, Int.mul_right_comm, Int.mul_comm (L : Int) y]
theorem frD_far (c : Nat) {L p : Nat} (hL : 0 < L) (hp : 0 < p) : frD (fard (fr1 c L) (fr2 c L) p) (fr2 c L * p) = frD (fard c L p) (L * p) := by
  refine frD_eq (Nat.mul_pos (fr2_pos c hL) hp) (Nat.mul_pos hL hp) ?_
  rw [← Nat.mul_assoc, fard_fr c hL, Nat.mul_assoc]
theorem far_le {c c0 L p : Nat} (hL : 0 < L) (hp : 0 < p) (h : fard c L p ≤ fard c0 L p) : fard (fr1 c L) (fr2 c L) p * fr2 (fard c0 L p) (L * p) ≤ fr1 (fard c0 L p) (L * p) * fr2 c L * p := by
  have e1 := fard_fr c (p := p) hL
  have e2 := fr_cross (fard c0 L p) (Nat.mul_pos hL hp)
  generalize fr1 (fard c0 L p) (L * p) = x at *
  generalize fr2 (fard c0 L p) (L * p) = y at *
  generalize fard (fr1 c L) (fr2 c L) p = z at *
  generalize fr2 c L = l at *
  generalize fard c L p = A at *
  generalize fard c0 L p = B at *
  have : (z * y) * L ≤ (x * l * p) * L := by
    calc (z * y) * L = (z * L) * y := Nat.mul_right_comm ..
      _ = A * l * y := by rw [e1]
      _ ≤ B * l * y := Nat.mul_le_mul_right _ (Nat.mul_le_mul_right _ h)
      _ = (B * y) * l := Nat.mul_right_comm ..
      _ = (x * (L * p)) * l := by rw [e2]
      _ = (x * l * p) * L := by simp [Nat.mul_comm, Nat.mul_left_comm]
  exact Nat.le_of_mul_le_mul_right this hL
/-! ### counting -/
section
variable {A B : Type} [DecidableEq B]
def cnt (R : List A) (f : A → B) (r : B) : Nat := (R.filter fun x => decide (f x = r)).length
theorem cnt_pos {R : List A} {f : A → B} {r : B} : 0 < cnt R f r ↔ ∃ x ∈ R, f x = r := by
  rw [cnt, List.length_pos_iff_exists_mem]
  simp
theorem cnt_le (R : List A) (f : A → B) (r : B) : cnt R f r ≤ R.length := List.length_filter_le ..
theorem cnt_perm {R R' : List A} (h : R.Perm R') (f : A → B) (r : B) : cnt R f r = cnt R' f r := (h.filter _).length_eq
theorem cnt_snoc (R : List A) (x : A) (f : A → B) (r : B) : cnt (R ++ [x]) f r = cnt R f r + if f x = r then 1 else 0 := by
  unfold cnt
  rw [List.filter_append, List.length_append]
  congr 1
  by_cases h : f x = r <;> simp [h]
theorem split_len (R : List A) (p q t : A → Bool) (h : ∀ x ∈ R, t x = (p x || q x)) (hd : ∀ x ∈ R, ¬ (p x = true ∧ q x = true)) : (R.filter t).length = (R.filter p).length + (R.filter q).length := by
  induction R with
  | nil => rfl
  | cons x R ih =>
    have := ih (fun y hy => h y (List.mem_cons_of_mem _ hy)) (fun y hy => hd y (List.mem_cons_of_mem _ hy))
    have hx := h x (List.mem_cons_self ..)
    have dx := hd x (List.mem_cons_self ..)
    cases hp : p x <;> cases hq : q x <;> simp_all <;> omega
theorem sum_cnt (R : List A) (f : A → B) : ∀ {K : List B}, K.Nodup → (K.map (cnt R f)).sum = (R.filter fun x => decide (f x ∈ K)).length
  | [], _ => by
    have : R.filter (fun _ => false) = [] := List.filter_eq_nil_iff.mpr fun _ _ q => by cases q
    simp [this]
  | k :: K, h => by
    obtain ⟨h1, h2⟩ := List.nodup_cons.mp h
    rw [List.map_cons, List.sum_cons, sum_cnt R f h2]
    refine (split_len R _ _ _ (fun x hx => ?_) fun x hx ⟨a, b⟩ => ?_).symm
    · simp [List.mem_cons, Bool.decide_or]
    · exact h1 ((of_decide_eq_true a) ▸ (of_decide_eq_true b))
theorem perm_of_mem {l l' : List A} [DecidableEq A] (h : l.Nodup) (h' : l'.Nodup) (hm : ∀ x, x ∈ l ↔ x ∈ l') : l.Perm l' := by
  rw [List.perm_iff_count]
  intro a
  rw [h.count, h'.count]
  simp [hm a]
end
/-! ### a maker's rows in its round -/
namespace Mk
variable {m : Mk} {s : Nat}
noncomputable def rd (m : Mk) (s : Nat) : List Nat := m.cyc (m.go (m.tl s) s)
theorem rd_tl (h : m.Ok) (hs : s < m.size) : m.tl (m.go (m.tl s) s) = 0 := by rw [(tl_go h hs _).1]; omega
theorem rd_len (h : m.Ok) (hs : s < m.size) : (m.rd s).length = m.rl s := by rw [rd, cyc_length, (tl_go h hs _).2]
theorem rd_lt (h : m.Ok) (hs : s < m.size) {x : Nat} (hx : x ∈ m.rd s) : x < m.size := cyc_lt h (h.go_lt _ hs) hx
theorem rd_nodup (h : m.Ok) (hs : s < m.size) : (m.rd s).Nodup := cyc_nodup h (h.go_lt _ hs) (rd_tl h hs)
theorem mem_rd (h : m.Ok) (hs : s < m.size) {x : Nat} : x ∈ m.rd s ↔ ∃ k, m.tl s ≤ k ∧ m.go k s = x := by
  rw [rd, mem_cyc h (h.go_lt _ hs) (rd_tl h hs)]
  constructor
  · rintro ⟨k, e⟩
    exact ⟨m.tl s + k, by omega, by rw [go_add]; exact e⟩
  · rintro ⟨k, hk, e⟩
    exact ⟨k - m.tl s, by rw [← go_add, show m.tl s + (k - m.tl s) = k by omega]; exact e⟩
theorem rd_step (h : m.Ok) (hs : s < m.size) : (m.rd (m.step s)).Perm (m.rd s) := by
  have hg : m.step s = m.go 1 s := rfl
  have hs' := h.step_lt hs
  refine perm_of_mem (rd_nodup h hs') (rd_nodup h hs) fun x => ?_
  rw [mem_rd h hs', mem_rd h hs]
  have et : m.tl (m.step s) = m.tl s - 1 := by rw [hg]; exact (tl_go h hs 1).1
  rw [et]
  constructor
  · rintro ⟨k, hk, e⟩
    refine ⟨1 + k, by omega, ?_⟩
    rw [go_add]
    exact e
  · rintro ⟨k, hk, e⟩
    by_cases q : k = 0
    · subst q
      refine ⟨m.rl s - 1, by omega, ?_⟩
      have hr := rl_pos h hs
      have := go_per h hs hk
      rw [Nat.zero_add, show m.rl s = 1 + (m.rl s - 1) by omega, go_add] at this
      rw [hg]
      exact this.trans e
    · refine ⟨k - 1, by omega, ?_⟩
      rw [hg, ← go_add, show 1 + (k - 1) = k by omega]
      exact e
theorem rl_step (h : m.Ok) (hs : s < m.size) : m.rl (m.step s) = m.rl s := (tl_go h hs 1).2
/-- how often a row of n comes in the round -/
noncomputable def cn (m : Mk) (s n : Nat) (r : List Nat) : Nat := cnt (m.rd s) (m.draw n) r
noncomputable def shR (m : Mk) (s n : Nat) : List (List Nat) := (rowsN m.faces n).filter fun r => decide (0 < m.cn s n r)
theorem cn_le (h : m.Ok) (hs : s < m.size) (n : Nat) (r : List Nat) : m.cn s n r ≤ m.rl s := by rw [← rd_len h hs]; exact cnt_le ..
theorem draw_faces (h : m.Ok) : ∀ (n : Nat) {x : Nat}, x < m.size → ∀ y ∈ m.draw n x, y < m.faces
  | 0, _, _, y, hy => by cases hy
  | n + 1, x, hx, y, hy => by
    rcases List.mem_cons.mp (show y ∈ m.face x :: m.draw n (m.step x) from hy) with rfl | hy
    · exact h.face_lt hx
    · exact draw_faces h n (h.step_lt hx) y hy
theorem draw_row (h : m.Ok) {x : Nat} (hx : x < m.size) (n : Nat) : m.draw n x ∈ rowsN m.faces n := mem_rowsN.mpr ⟨draw_length m n x, fun y hy => draw_faces h n hx y hy⟩
theorem mem_shR (h : m.Ok) (hs : s < m.size) {n : Nat} {r : List Nat} : r ∈ m.shR s n ↔ ∃ x ∈ m.rd s, m.draw n x = r := by
  rw [shR, List.mem_filter, decide_eq_true_eq, cn, cnt_pos]
  constructor
  · exact fun q => q.2
  · rintro ⟨x, hx, e⟩
    exact ⟨e ▸ draw_row h (rd_lt h hs hx) n, x, hx, e⟩
theorem shR_rise (m : Mk) (s n : Nat) : (m.shR s n).Pairwise (· < ·) := (rowsN_rise _ n).filter _
theorem shR_nodup (m : Mk) (s n : Nat) : (m.shR s n).Nodup := (shR_rise m s n).imp fun {a b} h e => by
  subst e
  exact List.lt_irrefl _ h
theorem shR_len {n : Nat} {r : List Nat} (hr : r ∈ m.shR s n) : r.length = n := (mem_rowsN.mp (List.mem_filter.mp hr).1).1
theorem shR_le (h : m.Ok) (hs : s < m.size) (n : Nat) : (m.shR s n).length ≤ m.rl s := by
  have := nodup_sub_len (l := m.shR s n) (L := (m.rd s).map (m.draw n)) (shR_nodup m s n) fun r hr => by
    obtain ⟨x, hx, e⟩ := (mem_shR h hs).mp hr
    exact List.mem_map.mpr ⟨x, hx, e⟩
  rw [List.length_map, rd_len h hs] at this
  exact this
theorem sum_all (h : m.Ok) (hs : s < m.size) (n : Nat) : ((m.shR s n).map (m.cn s n)).sum = m.rl s := by
  have := sum_cnt (m.rd s) (m.draw n) (shR_nodup m s n)
  rw [← rd_len h hs]
  refine this.trans (congrArg List.length (List.filter_eq_self.mpr fun x hx => ?_))
  have q := (mem_shR h hs (r := m.draw n x)).mpr ⟨x, hx, rfl⟩
  simp [q]
theorem draw_take (m : Mk) (n x : Nat) : (m.draw (n + 1) x).take n = m.draw n x := by
  rw [draw_add m n 1 x]
  exact List.take_left' (draw_length m n x)
theorem sum_pre (h : m.Ok) (hs : s < m.size) (n : Nat) (r : List Nat) : (((m.shR s (n + 1)).filter fun q => decide (q.take n = r)).map (m.cn s (n + 1))).sum = m.cn s n r := by
  have := sum_cnt (m.rd s) (m.draw (n + 1)) ((shR_nodup m s (n + 1)).filter fun q => decide (q.take n = r))
  refine this.trans (congrArg List.length (List.filter_congr fun x hx => ?_))
  have := (mem_shR h hs (n := n + 1) (r := m.draw (n + 1) x)).mpr ⟨x, hx, rfl⟩
  simp [List.mem_filter, this, draw_take]
theorem cn_step (h : m.Ok) (hs : s < m.size) (n : Nat) (r : List Nat) : m.cn (m.step s) n r = m.cn s n r := cnt_perm (rd_step h hs) _ _
theorem shR_step (h : m.Ok) (hs : s < m.size) (n : Nat) : m.shR (m.step s) n = m.shR s n := by
  rw [shR, shR]
  exact List.filter_congr fun r _ => by rw [cn_step h hs]
/-- the shares as data -/
noncomputable def shP (m : Mk) (s n : Nat) (r : List Nat) : PyData := .tuple [.tuple (nats r), frD (m.cn s n r) (m.rl s)]
noncomputable def shD (m : Mk) (s n : Nat) : List PyData := (m.shR s n).map (m.shP s n)
theorem shD_step (h : m.Ok) (hs : s < m.size) (n : Nat) : m.shD (m.step s) n = m.shD s n := by
  rw [shD, shD, shR_step h hs]
  exact List.map_congr_left fun r _ => by rw [shP, shP, cn_step h hs, rl_step h hs]
end Mk
/-! ### a book of counts -/
theorem valD_map (kvs : KVs) (k : NestedKey) (d : PyData) (x : NestedKey) : valD (kvs.map fun p => if p.1 = k then (p.1, d) else p) x = if x = k then (if hasK kvs k = true then some d else none) else valD kvs x := by
  induction kvs with
  | nil => simp [valD, hasK]
  | cons p kvs ih =>
    unfold valD hasK at *
    unfold valD at *
    by_cases h1 : p.1 = k
    · by_cases h2 : x = k
      · subst h2
        simp [h1]
      · have h3 : ¬ k = x := fun e => h2 e.symm
        simp only [List.map_cons, h1, if_true, List.find?_cons, h3, decide_false, h2, if_false]
        simp only [h2, if_false] at ih
        exact ih
    · by_cases h2 : x = k
      · subst h2
        simp only [List.map_cons, h1, if_false, List.find?_cons, decide_false, if_true]
        simp only [if_true] at ih
        exact ih
      · by_cases h3 : p.1 = x
        · simp [h1, h2, h3]
        · simp only [List.map_cons, h1, if_false, List.find?_cons, h3, decide_false, h2]
          simp only [h2, if_false] at ih
          exact ih
theorem valD_put (kvs : KVs) (k : NestedKey) (d : PyData) (x : NestedKey) : valD (putD kvs k d) x = if x = k then some d else valD kvs x := by
  unfold putD
  by_cases h : hasK kvs k = true
  · rw [if_pos h, valD_map, if_pos h]
  · rw [if_neg h]
    have h0 : valD kvs k = none := by
      unfold hasK at h
      cases e : valD kvs k with
      | none => rfl
      | some v => rw [e] at h; simp at h
    unfold valD at *
    rw [List.find?_append]
    by_cases h2 : x = k
    · subst h2
      have : kvs.find? (fun p => decide (p.1 = x)) = none := by simpa using h0
      rw [this]
      simp
    · have h3 : ¬ k = x := fun e => h2 e.symm
      simp [h2, h3]
/-- what a count stands for -/
def cntI : Option PyData → Int
  | some (.int i) => i
  | _ => 0
def bookS (f : Nat → List Nat) (kvs : KVs) (x : Nat) : KVs := putD kvs (rowK (f x)) (.int (cntI (valD kvs (rowK (f x))) + 1))
def bookF (f : Nat → List Nat) (P : List Nat) : KVs := P.foldl (bookS f) []
structure BookOk (f : Nat → List Nat) (P : List Nat) (kvs : KVs) : Prop where
  val : ∀ r, valD kvs (rowK r) = if cnt P f r = 0 then none else some (nat (cnt P f r))
  keys : ∃ K : List (List Nat), kvs.map (·.1) = K.map rowK ∧ K.Nodup ∧ ∀ r, r ∈ K ↔ ∃ x ∈ P, f x = r
  len : kvs.length ≤ P.length
theorem BookOk.put {f : Nat → List Nat} {P : List Nat} {kvs : KVs} (h : BookOk f P kvs) (x : Nat) : BookOk f (P ++ [x]) (bookS f kvs x) := by
  have hc : cntI (valD kvs (rowK (f x))) = (cnt P f (f x) : Int) := by
    rw [h.val]
    by_cases q : cnt P f (f x) = 0
    · simp [q, cntI]
    · simp [q, cntI]
  refine ⟨fun r => ?_, ?_, ?_⟩
  · rw [bookS, valD_put, hc, cnt_snoc]
    by_cases q : r = f x
    · subst q
      simp [nat]
    · have q1 : ¬ rowK r = rowK (f x) := fun e => q (rowK_inj e)
      have q2 : ¬ f x = r := fun e => q e.symm
      rw [if_neg q1, if_neg q2, h.val]
      simp
  · obtain ⟨K, e, nd, hm⟩ := h.keys
    have hk : hasK kvs (rowK (f x)) = true ↔ f x ∈ K := by
      rw [hasK_mem, e]
      constructor
      · intro q
        obtain ⟨r, hr, e⟩ := List.mem_map.mp q
        exact rowK_inj e ▸ hr
      · exact fun q => List.mem_map.mpr ⟨_, q, rfl⟩
    rw [bookS, putD_keys]
    by_cases q : f x ∈ K
    · rw [if_pos (hk.mpr q)]
      refine ⟨K, e, nd, fun r => ?_⟩
      rw [hm]
      constructor
      · rintro ⟨y, hy, e⟩; exact ⟨y, List.mem_append_left _ hy, e⟩
      · rintro ⟨y, hy, e⟩
        rcases List.mem_append.mp hy with hy | hy
        · exact ⟨y, hy, e⟩
        · have : y = x := by simpa using hy
          subst this
          subst e
          exact (hm _).mp q
    · rw [if_neg (fun z => q (hk.mp z))]
      refine ⟨K ++ [f x], by rw [e]; simp, ?_, fun r => ?_⟩
      · rw [List.nodup_append]
        refine ⟨nd, by simp, fun a ha b hb e => ?_⟩
        have : b = f x := by simpa using hb
        subst this
        subst e
        exact q ha
      · rw [List.mem_append, hm]
        constructor
        · rintro (⟨y, hy, e⟩ | hy)
          · exact ⟨y, List.mem_append_left _ hy, e⟩
          · have : r = f x := by simpa using hy
            exact ⟨x, by simp, this.symm⟩
        · rintro ⟨y, hy, e⟩
          rcases List.mem_append.mp hy with hy | hy
          · exact .inl ⟨y, hy, e⟩
          · have : y = x := by simpa using hy
            subst this
            exact .inr (by simp [e])
  · have h1 := h.len
    have h2 := putD_length kvs (rowK (f x)) (.int (cntI (valD kvs (rowK (f x))) + 1))
    rw [bookS, List.length_append, List.length_singleton]
    omega
theorem book_go {f : Nat → List Nat} : ∀ (P P0 : List Nat) (kvs : KVs), BookOk f P0 kvs → BookOk f (P0 ++ P) (P.foldl (bookS f) kvs)
  | [], P0, kvs, h => by simpa using h
  | x :: P, P0, kvs, h => by
    have := book_go P (P0 ++ [x]) _ (h.put x)
    simpa using this
theorem book_ok (f : Nat → List Nat) (P : List Nat) : BookOk f P (bookF f P) := by
  have := book_go P [] [] (f := f) ⟨fun r => by simp [cnt, valD], ⟨[], by simp⟩, by simp⟩
  rw [List.nil_append] at this
  exact this
theorem sortn_iff {ds L : List PyData} (hp : L.Perm ds) (hs : L.Pairwise (fun a b => dataLt a b = true)) (ha : AllAlike ds) (hk : Sortable ds) (hd : ∀ d ∈ ds, d.depth ≤ 60) {Q : List PyData → Prop} :
    (AllAlike ds ∧ Sortable ds ∧ (∀ d ∈ ds, d.depth ≤ 60) ∧ ∀ out : List PyData, out.Perm ds → out.Pairwise (fun a b => dataLt b a = false) → Q out) ↔ Q L := by
  constructor
  · rintro ⟨_, _, _, q⟩
    refine q L hp (hs.imp fun {a b} h => ?_)
    cases e : dataLt b a with
    | false => rfl
    | true =>
      have := PyProof.Rows.lex_trans (O := PyProof.Rows.itemOrd) _ _ _ h e
      have h2 : dataLt a a = false := PyProof.Rows.lex_irrefl _
      have h3 : dataLt a a = true := this
      rw [h2] at h3
      cases h3
  · intro q
    exact ⟨ha, hk, hd, fun out ho hpw => by rw [sort_uniq (ho.trans hp.symm) hpw hs]; exact q⟩
/-- the keys of a maker's book, rising -/
theorem book_sort {m : Mk} (h : m.Ok) {s : Nat} (hs : s < m.size) {n : Nat} (hn : 1 ≤ n) {Q : List PyData → Prop} : let ds := (bookF (m.draw n) (m.rd s)).map fun p => p.1.data
    (AllAlike ds ∧ Sortable ds ∧ (∀ d ∈ ds, d.depth ≤ 60) ∧ ∀ out : List PyData, out.Perm ds → out.Pairwise (fun a b => dataLt b a = false) → Q out) ↔ Q ((m.shR s n).map fun r => PyData.tuple (nats r)) := by
  intro ds
  obtain ⟨K, e, nd, hm⟩ := (book_ok (m.draw n) (m.rd s)).keys
  have eds : ds = K.map fun r => PyData.tuple (nats r) := by
    have : ds = ((bookF (m.draw n) (m.rd s)).map (·.1)).map NestedKey.data := by simp [ds]
    rw [this, e, List.map_map]
    exact List.map_congr_left fun r _ => rowK_data r
  rw [eds]
  refine sortn_iff ?_ ?_ (alike_rows K) (sortable_rows fun r hr => ?_) (depth_rows K)
  · refine List.Perm.map _ (perm_of_mem (Mk.shR_nodup m s n) nd fun r => ?_)
    rw [Mk.mem_shR h hs, hm]
  · rw [List.pairwise_map]
    exact (Mk.shR_rise m s n).imp fun {a b} h => by rw [row_lt]; exact decide_eq_true h
  · obtain ⟨x, _, e⟩ := (hm r).mp hr
    intro z
    have := Mk.draw_length m n x
    rw [e, z] at this
    simp at this
    omega
theorem bookF_val (m : Mk) (s n : Nat) {r : List Nat} (hr : r ∈ m.shR s n) : valD (bookF (m.draw n) (m.rd s)) (rowK r) = some (nat (m.cn s n r)) := by
  have hp := of_decide_eq_true (List.mem_filter.mp hr).2
  rw [(book_ok _ _).val, if_neg]
  · rfl
  · intro z
    rw [Mk.cn, z] at hp
    omega
end Dm
namespace Dm
open PySem L2 Fd PySem.W
theorem prD_inj : ∀ {a b : KVs}, a.map Fd.prD = b.map Fd.prD → (∀ p ∈ a, goodK p.1 = true) → (∀ p ∈ b, goodK p.1 = true) → a = b
  | [], [], _, _, _ => rfl
  | [], _ :: _, e, _, _ => by simp at e
  | _ :: _, [], e, _, _ => by simp at e
  | x :: a, y :: b, e, g1, g2 => by
    rw [List.map_cons, List.map_cons] at e
    obtain ⟨e1, e3⟩ := List.cons.inj e
    rw [prD_inj e3 (fun p hp => g1 p (List.mem_cons_of_mem _ hp)) (fun p hp => g2 p (List.mem_cons_of_mem _ hp))]
    congr 1
    unfold Fd.prD at e1
    have e4 := PyData.tuple.inj e1
    obtain ⟨e5, e6⟩ := List.cons.inj e4
    have e7 := (List.cons.inj e6).1
    exact Prod.ext (data_inj (g1 x (List.mem_cons_self ..)) (g2 y (List.mem_cons_self ..)) e5) e7
theorem dictT_iff {ps : KVs} (g : ∀ p ∈ ps, goodK p.1 = true) (hl : ps.length ≤ sizeLine) {Q : KVs → Prop} : (∃ qs : KVs, PyData.tuple (ps.map Fd.prD) = .tuple (qs.map Fd.prD) ∧ (∀ p ∈ qs, goodK p.1 = true) ∧ qs.length ≤ sizeLine ∧ Q qs) ↔ Q ps := by
  constructor
  · rintro ⟨qs, e, g2, _, q⟩
    rwa [prD_inj (PyData.tuple.inj e) g g2]
  · intro q
    exact ⟨ps, rfl, g, hl, q⟩
theorem valD_putAll_ne : ∀ (ps kvs : KVs) (x : NestedKey), x ∉ ps.map (·.1) → valD (putAll kvs ps) x = valD kvs x
  | [], _, _, _ => rfl
  | p :: ps, kvs, x, h => by
    have h1 : ¬ x = p.1 := fun e => h (by simp [e])
    have h2 : x ∉ ps.map (·.1) := fun e => h (List.mem_cons_of_mem _ e)
    show valD (putAll (putD kvs p.1 p.2) ps) x = _
    rw [valD_putAll_ne ps _ x h2, valD_put, if_neg h1]
theorem valD_putAll_mem : ∀ (ps kvs : KVs) {x : NestedKey} {d : PyData}, (ps.map (·.1)).Nodup → (x, d) ∈ ps → valD (putAll kvs ps) x = some d
  | [], _, _, _, _, h => by cases h
  | p :: ps, kvs, x, d, hn, h => by
    obtain ⟨h1, h2⟩ := List.nodup_cons.mp (show (p.1 :: ps.map (·.1)).Nodup from hn)
    show valD (putAll (putD kvs p.1 p.2) ps) x = _
    rcases List.mem_cons.mp h with rfl | h
    · rw [valD_putAll_ne ps _ _ h1, valD_put, if_pos rfl]
    · exact valD_putAll_mem ps _ h2 h
namespace Mk
variable {m : Mk} {s : Nat}
noncomputable def shK (m : Mk) (s n : Nat) : KVs := (m.shR s n).map fun r => (rowK r, frD (m.cn s n r) (m.rl s))
theorem shK_pr (m : Mk) (s n : Nat) : (m.shK s n).map Fd.prD = m.shD s n := by
  rw [shK, shD, List.map_map]
  exact List.map_congr_left fun r _ => by simp [shP, Fd.prD, rowK_data]
theorem shK_good (m : Mk) (s n : Nat) : ∀ p ∈ m.shK s n, goodK p.1 = true := fun p hp => by
  obtain ⟨r, _, rfl⟩ := List.mem_map.mp hp
  exact rowK_good r
theorem shK_val (h : m.Ok) (hs : s < m.size) {n : Nat} {r : List Nat} (hr : r ∈ rowsN m.faces n) : (valD (putAll [] (m.shK s n)) (rowK r)).getD (.tuple [.int 0, .int 1]) = frD (m.cn s n r) (m.rl s) := by
  have ek : (m.shK s n).map (·.1) = (m.shR s n).map rowK := by simp [shK]
  by_cases q : r ∈ m.shR s n
  · have nd : ((m.shK s n).map (·.1)).Nodup := by
      rw [ek, List.Nodup, List.pairwise_map]
      exact (shR_nodup m s n).imp fun {a b} h e => h (rowK_inj e)
    rw [valD_putAll_mem _ _ nd (List.mem_map.mpr ⟨r, q, rfl⟩)]
    rfl
  · have : m.cn s n r = 0 := by
      by_cases z : 0 < m.cn s n r
      · exact absurd (List.mem_filter.mpr ⟨hr, decide_eq_true z⟩) q
      · omega
    rw [valD_putAll_ne, this, frD_zero (rl_pos h hs)]
    · rfl
    · rw [ek]
      intro z
      obtain ⟨r', hr', e⟩ := List.mem_map.mp z
      exact q (rowK_inj e ▸ hr')
end Mk
/-- the first greatest -/
def pick (d : List Nat → Nat) : Option (List Nat) → List Nat → Option (List Nat)
  | none, r => some r
  | some q, r => if d q < d r then some r else some q
theorem pick_go (d : List Nat → Nat) : ∀ (l : List (List Nat)) (q : List Nat), ∃ b, l.foldl (pick d) (some q) = some b ∧ (b = q ∨ b ∈ l) ∧ d q ≤ d b ∧ ∀ r ∈ l, d r ≤ d b
  | [], q => ⟨q, rfl, .inl rfl, Nat.le_refl _, fun _ h => by cases h⟩
  | r :: l, q => by
    by_cases h : d q < d r
    · obtain ⟨b, e, hb, h1, h2⟩ := pick_go d l r
      refine ⟨b, by simp [pick, h, e], .inr ?_, by omega, fun x hx => ?_⟩
      · rcases hb with rfl | hb
        · exact List.mem_cons_self ..
        · exact List.mem_cons_of_mem _ hb
      · rcases List.mem_cons.mp hx with rfl | hx
        · exact h1
        · exact h2 x hx
    · obtain ⟨b, e, hb, h1, h2⟩ := pick_go d l q
      refine ⟨b, by simp [pick, h, e], ?_, h1, fun x hx => ?_⟩
      · rcases hb with rfl | hb
        · exact .inl rfl
        · exact .inr (List.mem_cons_of_mem _ hb)
      · rcases List.mem_cons.mp hx with rfl | hx
        · omega
        · exact h2 x hx
theorem pick_all (d : List Nat → Nat) {l : List (List Nat)} (hl : l ≠ []) : ∃ b, l.foldl (pick d) none = some b ∧ b ∈ l ∧ ∀ r ∈ l, d r ≤ d b := by
  cases l with
  | nil => exact absurd rfl hl
  | cons r l =>
    obtain ⟨b, e, hb, h1, h2⟩ := pick_go d l r
    refine ⟨b, e, ?_, fun x hx => ?_⟩
    · rcases hb with rfl | hb
      · exact List.mem_cons_self ..
      · exact List.mem_cons_of_mem _ hb
    · rcases List.mem_cons.mp hx with rfl | hx
      · exact h1
      · exact h2 x hx
end Dm
namespace Dm
open PySem L2 Fd PySem.W
namespace Mk
variable {m : Mk} {s : Nat}
theorem shP_alike (m : Mk) (s n : Nat) (a b : List Nat) : alike (m.shP s n a) (m.shP s n b) = true := by
  have := alike_all_nats a b
  simp [shP, frD, alike, alikeAll, this]
theorem shP_lt {n : Nat} {a b : List Nat} (h : a < b) : dataLt (m.shP s n a) (m.shP s n b) = true := by
  have hne : ¬ a = b := fun e => by subst e; exact List.lt_irrefl _ h
  have h1 : alike (.tuple (nats a)) (.tuple (nats b)) = true := by simp only [alike]; exact alike_all_nats a b
  have h2 : alike (frD (m.cn s n a) (m.rl s)) (frD (m.cn s n b) (m.rl s)) = true := by simp [frD, alike, alikeAll]
  rw [shP, shP, dataLt_pair h1 h2, eqv_tt, eqvAll_nats, decide_eq_false hne, row_lt, decide_eq_true h]
  simp
theorem shP_sh (m : Mk) (s n : Nat) (a : List Nat) : Sh 2 (m.shP s n a) := sh_tuple fun d hd => by
  rcases List.mem_cons.mp hd with rfl | hd
  · exact sh_tuple (sh_nats a)
  · have : d = frD (m.cn s n a) (m.rl s) := by simpa using hd
    subst this
    exact sh_tuple (sh_nats [fr1 (m.cn s n a) (m.rl s), fr2 (m.cn s n a) (m.rl s)])
theorem shD_sort (h : m.Ok) (hs : s < m.size) {n : Nat} {Q : List PyData → Prop} : (AllAlike (m.shD s n) ∧ Sortable (m.shD s n) ∧ (m.shD s n).length ≤ sizeLine ∧ (∀ d ∈ m.shD s n, d.depth ≤ 60) ∧ ∀ out : List PyData, out.Perm (m.shD s n) → out.Pairwise (fun a b => dataLt b a = false) → Q out) ↔ Q (m.shD s n) := by
  refine sortd_iff (List.Perm.refl _) ?_ (fun d hd d' hd' => ?_) (.inl fun d hd => ?_) ?_ (fun d hd => ?_)
  · rw [shD, List.pairwise_map]
    exact (shR_rise m s n).imp fun {a b} h => shP_lt h
  · obtain ⟨a, _, rfl⟩ := List.mem_map.mp hd
    obtain ⟨b, _, rfl⟩ := List.mem_map.mp hd'
    exact shP_alike m s n a b
  · obtain ⟨a, _, rfl⟩ := List.mem_map.mp hd
    exact ⟨_, _, rfl⟩
  · rw [shD, List.length_map, line]
    have := shR_le h hs n
    have := tl_rl_le h hs
    have := h.size_le
    omega
  · obtain ⟨a, _, rfl⟩ := List.mem_map.mp hd
    exact Nat.le_trans (shP_sh m s n a).dep (by decide)
theorem shD_shL (m : Mk) (s n : Nat) : SeqAt.shaped (.list (m.shD s n)) = true := (sh_list (n := 2) fun d hd => by
  obtain ⟨a, _, rfl⟩ := List.mem_map.mp hd
  exact shP_sh m s n a).ok (by decide)
theorem shD_shT (m : Mk) (s n : Nat) : SeqAt.shaped (.tuple (m.shD s n)) = true := (sh_tuple (n := 2) fun d hd => by
  obtain ⟨a, _, rfl⟩ := List.mem_map.mp hd
  exact shP_sh m s n a).ok (by decide)
theorem shD_eqv (m : Mk) (s n : Nat) : PyData.eqvAll (m.shD s n) (m.shD s n) = true := by
  rw [shD]
  induction m.shR s n with
  | nil => simp
  | cons a l ih =>
    rw [List.map_cons, eqvAll_cc, ih]
    simp [shP, frD, eqvAll_nats]
end Mk
end Dm
end
section
set_option Elab.async false
set_option linter.all false
set_option maxRecDepth 100000
set_option autoImplicit false
set_option maxHeartbeats 4000000
/-! Mix: numbers below a bound, mixed rows, orders, in plain Lean. -/
namespace Dm
open PySem L2 Fd PySem.W
namespace Mk
variable {m : Mk} {s : Nat}
/-- the first try that is below B: its number, the stand behind it, the faces taken -/
noncomputable def belR (m : Mk) (k B : Nat) : Nat → Nat → Nat → Option (Nat × Nat × Nat)
  | 0, _, _ => none
  | n + 1, j, s => if m.num k s < B then some (m.num k s, m.go k s, (j + 1) * k) else belR m k B n (j + 1) (m.go k s)
noncomputable def belO (m : Mk) (s B : Nat) : Option (Nat × Nat × Nat) := belR m (sizeFor m.faces B) B 1000 0 s
theorem belR_some {k B : Nat} (h : m.Ok) : ∀ (n j : Nat) {s x t u : Nat}, s < m.size → belR m k B n j s = some (x, t, u) → x < B ∧ t < m.size ∧ j * k ≤ u ∧ t = m.go (u - j * k) s
  | 0, j, s, x, t, u, hs, e => by cases e
  | n + 1, j, s, x, t, u, hs, e => by
    unfold belR at e
    split at e
    · rename_i hlt
      cases e
      have h1 : (j + 1) * k = j * k + k := Nat.succ_mul j k
      exact ⟨hlt, h.go_lt _ hs, by omega, by rw [h1, Nat.add_sub_cancel_left]⟩
    · obtain ⟨h1, h2, h3, h4⟩ := belR_some h n (j + 1) (h.go_lt k hs) e
      have h5 : (j + 1) * k = j * k + k := Nat.succ_mul j k
      refine ⟨h1, h2, by omega, ?_⟩
      rw [h4, ← go_add]
      congr 1
      omega
theorem belO_some (h : m.Ok) (hs : s < m.size) {B x t u : Nat} (e : m.belO s B = some (x, t, u)) : x < B ∧ t < m.size ∧ t = m.go u s := by
  obtain ⟨h1, h2, _, h4⟩ := belR_some h 1000 0 hs e
  refine ⟨h1, h2, ?_⟩
  simpa using h4
end Mk
/-- two items change places -/
def swp {A : Type} (l : List A) (i j : Nat) : List A := match l[i]?, l[j]? with
  | some a, some b => (l.set i b).set j a
  | _, _ => l
theorem swp_length {A : Type} (l : List A) (i j : Nat) : (swp l i j).length = l.length := by
  unfold swp
  split <;> simp
theorem swp_map {A B : Type} (f : A → B) (l : List A) (i j : Nat) : swp (l.map f) i j = (swp l i j).map f := by
  unfold swp
  rw [List.getElem?_map, List.getElem?_map]
  cases l[i]? with
  | none => rfl
  | some a => cases l[j]? with
    | none => rfl
    | some b => simp [List.map_set]
theorem swp_eq {A : Type} {l : List A} {i j : Nat} {a b : A} (hi : l[i]? = some a) (hj : l[j]? = some b) : swp l i j = (l.set i b).set j a := by
  unfold swp
  rw [hi, hj]
theorem set_perm {A : Type} : ∀ (l : List A) (i : Nat) (a b : A), l[i]? = some a → (a :: l.set i b).Perm (b :: l)
  | [], i, a, b, h => by simp at h
  | x :: l, 0, a, b, h => by
    simp at h
    subst h
    exact List.Perm.swap ..
  | x :: l, i + 1, a, b, h => by
    have h' : l[i]? = some a := by simpa using h
    have := set_perm l i a b h'
    show (a :: x :: l.set i b).Perm (b :: x :: l)
    exact ((List.Perm.swap x a _).trans (this.cons x)).trans (List.Perm.swap b x _)
theorem set_same {A : Type} {l : List A} {i : Nat} {a : A} (h : l[i]? = some a) : l.set i a = l := by
  apply List.ext_getElem?
  intro j
  by_cases e : i = j
  · subst e
    rw [List.getElem?_set_self (List.getElem?_eq_some_iff.mp h).1, h]
  · rw [List.getElem?_set_ne e]
theorem swp_perm {A : Type} (l : List A) (i j : Nat) : (swp l i j).Perm l := by
  unfold swp
  split
  · rename_i a b ha hb
    by_cases e : i = j
    · subst e
      rw [ha] at hb
      cases hb
      rw [List.set_set, set_same ha]
    · have h2 : (l.set i b)[j]? = some b := by rw [List.getElem?_set_ne e]; exact hb
      have p1 := set_perm (l.set i b) j b a h2
      have p2 := set_perm l i a b ha
      exact (List.perm_cons b).mp (p1.trans p2)
  · exact List.Perm.refl _
namespace Mk
variable {m : Mk} {s : Nat}
noncomputable def mixR {A : Type} (m : Mk) : Nat → List A → Nat → Option (List A × Nat)
  | 0, l, s => some (l, s)
  | n + 1, l, s => match m.belO s (n + 2) with
    | none => none
    | some (x, t, _) => mixR m n (swp l (n + 1) x) t
noncomputable def mixO {A : Type} (m : Mk) (s : Nat) (l : List A) : Option (List A × Nat) := mixR m (l.length - 1) l s
theorem mixR_map {A B : Type} (f : A → B) : ∀ (n : Nat) (l : List A) (s : Nat), mixR m n (l.map f) s = (mixR m n l s).map fun p => (p.1.map f, p.2)
  | 0, l, s => rfl
  | n + 1, l, s => by
    unfold mixR
    cases m.belO s (n + 2) with
    | none => rfl
    | some p =>
      obtain ⟨x, t, u⟩ := p
      dsimp only
      rw [swp_map, mixR_map f n]
theorem mixO_map {A B : Type} (f : A → B) (l : List A) (s : Nat) : m.mixO s (l.map f) = (m.mixO s l).map fun p => (p.1.map f, p.2) := by
  unfold mixO
  rw [List.length_map, mixR_map]
theorem mixR_some {A : Type} (h : m.Ok) : ∀ (n : Nat) {l l' : List A} {s t : Nat}, s < m.size → mixR m n l s = some (l', t) → l'.Perm l ∧ t < m.size
  | 0, l, l', s, t, hs, e => by cases e; exact ⟨List.Perm.refl _, hs⟩
  | n + 1, l, l', s, t, hs, e => by
    unfold mixR at e
    cases q : m.belO s (n + 2) with
    | none => rw [q] at e; cases e
    | some p =>
      obtain ⟨x, u, v⟩ := p
      rw [q] at e
      obtain ⟨h1, h2⟩ := mixR_some h n (belO_some h hs q).2.1 e
      exact ⟨h1.trans (swp_perm _ _ _), h2⟩
theorem mixO_some {A : Type} (h : m.Ok) (hs : s < m.size) {l l' : List A} {t : Nat} (e : m.mixO s l = some (l', t)) : l'.Perm l ∧ t < m.size := mixR_some h _ hs e
/-- the order of few numbers that is mixed from s -/
noncomputable def ordO (m : Mk) (few s : Nat) : Option (List Nat × Nat) := m.mixO s (List.range few)
noncomputable def ord (m : Mk) (few s : Nat) : List Nat := ((m.ordO few s).map (·.1)).getD []
theorem ordO_row {A : Type} (h : m.Ok) (hs : s < m.size) {few : Nat} {l : List Nat} {t : Nat} (e : m.ordO few s = some (l, t)) : l.Perm (List.range few) ∧ l ∈ rowsN few few ∧ t < m.size := by
  obtain ⟨h1, h2⟩ := mixO_some h hs e
  refine ⟨h1, mem_rowsN.mpr ⟨by rw [h1.length_eq, List.length_range], fun x hx => ?_⟩, h2⟩
  exact List.mem_range.mp (h1.mem_iff.mp hx)
/-- from each stand an order is mixed -/
def OrdOk (m : Mk) (few : Nat) : Prop := ∀ x, x < m.size → ∃ l t, m.ordO few x = some (l, t)
theorem ord_of {few : Nat} {l : List Nat} {t : Nat} (e : m.ordO few s = some (l, t)) : m.ord few s = l := by
  unfold ord
  rw [e]
  rfl
theorem ord_row (h : m.Ok) {few : Nat} (ok : m.OrdOk few) (hs : s < m.size) : (m.ord few s).Perm (List.range few) ∧ m.ord few s ∈ rowsN few few := by
  obtain ⟨l, t, e⟩ := ok s hs
  rw [ord_of e]
  have := ordO_row (A := Nat) h hs e
  exact ⟨this.1, this.2.1⟩
noncomputable def ordC (m : Mk) (few : Nat) (r : List Nat) : Nat := cnt (List.range m.size) (m.ord few) r
noncomputable def ordR (m : Mk) (few : Nat) : List (List Nat) := (rowsN few few).filter fun r => decide (0 < m.ordC few r)
noncomputable def ordP (m : Mk) (few : Nat) (r : List Nat) : PyData := .tuple [.tuple (nats r), nat (m.ordC few r)]
noncomputable def ordL (m : Mk) (few : Nat) : List PyData := (m.ordR few).map (m.ordP few)
noncomputable def ordB (m : Mk) (few : Nat) : KVs := bookF (m.ord few) (List.range m.size)
theorem mem_ordR (h : m.Ok) {few : Nat} (ok : m.OrdOk few) {r : List Nat} : r ∈ m.ordR few ↔ ∃ x ∈ List.range m.size, m.ord few x = r := by
  unfold ordR
  rw [List.mem_filter, decide_eq_true_iff, ordC, cnt_pos]
  constructor
  · exact fun z => z.2
  · rintro ⟨x, hx, e⟩
    refine ⟨?_, x, hx, e⟩
    rw [← e]
    exact (ord_row h ok (List.mem_range.mp hx)).2
theorem ordR_rise (m : Mk) (few : Nat) : (m.ordR few).Pairwise (· < ·) := (rowsN_rise _ _).filter _
theorem ordR_nodup (m : Mk) (few : Nat) : (m.ordR few).Nodup := (ordR_rise m few).imp fun {a b} h e => by
  subst e
  exact List.lt_irrefl _ h
end Mk
theorem valD_mem : ∀ {kvs : KVs} {p : NestedKey × PyData}, (kvs.map (·.1)).Nodup → p ∈ kvs → valD kvs p.1 = some p.2
  | [], p, _, h => by cases h
  | q :: kvs, p, nd, h => by
    rw [List.map_cons, List.nodup_cons] at nd
    unfold valD
    rcases List.mem_cons.mp h with rfl | h
    · simp
    · have ne : ¬ q.1 = p.1 := fun e => nd.1 (by rw [e]; exact List.mem_map.mpr ⟨p, h, rfl⟩)
      rw [List.find?_cons, decide_eq_false ne]
      exact valD_mem nd.2 h
theorem rowsK_nodup {K : List (List Nat)} (nd : K.Nodup) : (K.map rowK).Nodup := by
  refine List.pairwise_map.mpr (nd.imp fun {a b} h e => h (rowK_inj e))
theorem book_items {f : Nat → List Nat} {P : List Nat} : ∃ K : List (List Nat), K.Nodup ∧ (∀ r, r ∈ K ↔ ∃ x ∈ P, f x = r) ∧ (bookF f P) = K.map fun r => (rowK r, nat (cnt P f r)) := by
  have ok := book_ok f P
  obtain ⟨K, e, nd, hm⟩ := ok.keys
  refine ⟨K, nd, hm, ?_⟩
  have ndk : ((bookF f P).map (·.1)).Nodup := by rw [e]; exact rowsK_nodup nd
  have hl : (bookF f P).length = K.length := by have := congrArg List.length e; simpa using this
  apply List.ext_getElem?
  intro j
  rw [List.getElem?_map]
  have ej := congrArg (fun l => l[j]?) e
  simp only [List.getElem?_map] at ej
  cases q : (bookF f P)[j]? with
  | none =>
    rw [q] at ej
    cases q2 : K[j]? with
    | none => rfl
    | some r => rw [q2] at ej; cases ej
  | some p =>
    rw [q] at ej
    cases q2 : K[j]? with
    | none => rw [q2] at ej; cases ej
    | some r =>
      rw [q2] at ej
      simp only [Option.map_some, Option.some.injEq] at ej
      have hv := valD_mem ndk (List.mem_of_getElem? q)
      rw [ej, ok.val] at hv
      have hr : 0 < cnt P f r := cnt_pos.mpr ((hm r).mp (List.mem_of_getElem? q2))
      rw [if_neg (by omega)] at hv
      simp only [Option.some.injEq] at hv
      simp only [Option.map_some, Option.some.injEq]
      exact Prod.ext ej hv.symm
theorem pr_lt {a b : List Nat} {x y : Nat} (h : a < b) : dataLt (.tuple [.tuple (nats a), nat x]) (.tuple [.tuple (nats b), nat y]) = true := by
  have hne : ¬ a = b := fun e => by subst e; exact List.lt_irrefl _ h
  have h1 : PySem.W.alike (.tuple (nats a)) (.tuple (nats b)) = true := by simp only [PySem.W.alike]; exact alike_all_nats a b
  have h2 : PySem.W.alike (nat x) (nat y) = true := by simp [PySem.W.alike]
  rw [dataLt_pair h1 h2, eqv_tt, eqvAll_nats, decide_eq_false hne, row_lt, decide_eq_true h]
  simp
theorem pr_alike (a b : List Nat) (x y : Nat) : PySem.W.alike (.tuple [.tuple (nats a), nat x]) (.tuple [.tuple (nats b), nat y]) = true := by
  have := alike_all_nats a b
  simp [PySem.W.alike, PySem.W.alikeAll, this]
theorem pr_sh (a : List Nat) (x : Nat) : Sh 2 (.tuple [.tuple (nats a), nat x]) := sh_tuple fun d hd => by
  rcases List.mem_cons.mp hd with rfl | hd
  · exact sh_tuple (sh_nats a)
  · have : d = nat x := by simpa using hd
    subst this
    exact (sh_int _).mono (by decide)
namespace Mk
variable {m : Mk} {s : Nat}
theorem ordB_items (h : m.Ok) {few : Nat} (ok : m.OrdOk few) : ∃ K : List (List Nat), (m.ordR few).Perm K ∧ m.ordB few = K.map fun r => (rowK r, nat (m.ordC few r)) := by
  obtain ⟨K, nd, hm, e⟩ := book_items (f := m.ord few) (P := List.range m.size)
  exact ⟨K, perm_of_mem (ordR_nodup m few) nd fun r => by rw [mem_ordR h ok, hm], e⟩
theorem items_sort (h : m.Ok) {few : Nat} (ok : m.OrdOk few) {Q : List PyData → Prop} :
    (AllAlike (itemsD (m.ordB few)) ∧ Sortable (itemsD (m.ordB few)) ∧ (∀ d ∈ itemsD (m.ordB few), d.depth ≤ 60) ∧ ∀ out : List PyData, out.Perm (itemsD (m.ordB few)) → out.Pairwise (fun a b => dataLt b a = false) → Q out) ↔ Q (m.ordL few) := by
  obtain ⟨K, pm, e⟩ := ordB_items h ok
  have ei : itemsD (m.ordB few) = K.map (m.ordP few) := by
    rw [e, itemsD, List.map_map]
    exact List.map_congr_left fun r _ => by simp [ordP, rowK_data]
  rw [ei]
  refine sortn_iff (pm.map _) ?_ (fun d hd d' hd' => ?_) (.inl fun d hd => ?_) (fun d hd => ?_)
  · rw [List.pairwise_map]
    exact (ordR_rise m few).imp fun {a b} h => pr_lt h
  · obtain ⟨a, _, rfl⟩ := List.mem_map.mp hd
    obtain ⟨b, _, rfl⟩ := List.mem_map.mp hd'
    exact pr_alike a b _ _
  · obtain ⟨a, _, rfl⟩ := List.mem_map.mp hd
    exact ⟨_, _, rfl⟩
  · obtain ⟨a, _, rfl⟩ := List.mem_map.mp hd
    exact Nat.le_trans (pr_sh a _).dep (by decide)
theorem keys_sort (h : m.Ok) {few : Nat} (hf : 1 ≤ few) (ok : m.OrdOk few) {Q : List PyData → Prop} : let ds := (m.ordB few).map fun p => p.1.data
    (AllAlike ds ∧ Sortable ds ∧ (∀ d ∈ ds, d.depth ≤ 60) ∧ ∀ out : List PyData, out.Perm ds → out.Pairwise (fun a b => dataLt b a = false) → Q out) ↔ Q ((m.ordR few).map fun r => PyData.tuple (nats r)) := by
  intro ds
  obtain ⟨K, pm, e⟩ := ordB_items h ok
  have eds : ds = K.map fun r => PyData.tuple (nats r) := by
    show (m.ordB few).map _ = _
    rw [e, List.map_map]
    exact List.map_congr_left fun r _ => rowK_data r
  rw [eds]
  refine sortn_iff (pm.map _) ?_ (alike_rows K) (sortable_rows fun r hr => ?_) (depth_rows K)
  · rw [List.pairwise_map]
    exact (ordR_rise m few).imp fun {a b} h => by rw [row_lt]; exact decide_eq_true h
  · obtain ⟨x, hx, e⟩ := (mem_ordR h ok).mp (pm.mem_iff.mpr hr)
    intro z
    have := (ord_row h ok (List.mem_range.mp hx)).1.length_eq
    rw [e, z] at this
    simp at this
    omega
theorem ordB_val (h : m.Ok) {few : Nat} {r : List Nat} (hr : r ∈ m.ordR few) : valD (m.ordB few) (rowK r) = some (nat (m.ordC few r)) := by
  have hp := of_decide_eq_true (List.mem_filter.mp hr).2
  rw [ordB, (book_ok _ _).val, if_neg]
  · rfl
  · intro z
    rw [ordC, z] at hp
    omega
theorem ordR_len (h : m.Ok) {few : Nat} (ok : m.OrdOk few) : (m.ordR few).length ≤ m.size := by
  obtain ⟨K, pm, e⟩ := ordB_items h ok
  have := (book_ok (m.ord few) (List.range m.size)).len
  rw [show bookF (m.ord few) (List.range m.size) = m.ordB few from rfl, e, List.length_map, List.length_range] at this
  rw [pm.length_eq]
  exact this
end Mk
end Dm
end
section
set_option Elab.async false
set_option linter.all false
set_option maxRecDepth 100000
set_option autoImplicit false
set_option maxHeartbeats 4000000
namespace Dm
open PySem PySem.Spec PyProof.Rows L2 LamX Fd
def top (i : Nat) : Stmt := PySem.Challenge.pw_drawmakers_k53_whole_orders_counted.main.body.getD i (.Pass ⟨0, 0, 0, 0⟩)
abbrev s_divisor : Stmt := top 6
abbrev N_divisor : List Str := ["one", "other"]
theorem nd_divisor : N_divisor.Nodup := by decide +kernel
theorem sc_divisor : FnScope N_divisor ["one", "other"] (defScope s_divisor) := ⟨rfl, rfl, rfl, nd_divisor, rfl, by decide +kernel, by decide +kernel⟩
def t_divisor : DS :=
    (dThen (dWhile (dTest (dOp dNe (dVar 1) (dC (.int 0)))) (dPar 0 1 (dCons (dVar 1) (dCons (dOp dMod (dVar 0) (dVar 1)) dNil))))
      (dRet (dVar 0)))
def f_divisor : List PyData → M PyData := fun ds Q E => ds.length = 2 ∧ dFn t_divisor N_divisor ds Q E
theorem f_divisor_eq {a0 a1 : PyData} {Q : PyData → Prop} {E : Value → Prop} : f_divisor [a0, a1] Q E ↔ t_divisor { nx := fun _ => Q .none, rt := Q, ex := E } [.dat a0, .dat a1] := ⟨fun h => h.2, fun h => ⟨rfl, h⟩⟩
abbrev s_fraction : Stmt := top 7
abbrev N_fraction : List Str := ["upper", "lower", "shared"]
theorem nd_fraction : N_fraction.Nodup := by decide +kernel
theorem sc_fraction : FnScope N_fraction ["upper", "lower"] (defScope s_fraction) := ⟨rfl, rfl, rfl, nd_fraction, rfl, by decide +kernel, by decide +kernel⟩
def t_fraction : DS :=
    (dThen (dSet 2 (dCall f_divisor (dCons (dCall dAbs (dCons (dVar 0) dNil)) (dCons (dVar 1) dNil))))
      (dRet (dTup (dCons (dOp dDiv (dVar 0) (dVar 2)) (dCons (dOp dDiv (dVar 1) (dVar 2)) dNil)))))
def f_fraction : List PyData → M PyData := fun ds Q E => ds.length = 2 ∧ dFn t_fraction N_fraction ds Q E
theorem f_fraction_eq {a0 a1 : PyData} {Q : PyData → Prop} {E : Value → Prop} : f_fraction [a0, a1] Q E ↔ t_fraction { nx := fun _ => Q .none, rt := Q, ex := E } [.dat a0, .dat a1, .no] := ⟨fun h => h.2, fun h => ⟨rfl, h⟩⟩
abbrev s_power : Stmt := top 8
abbrev N_power : List Str := ["base", "many", "found", "turn"]
theorem nd_power : N_power.Nodup := by decide +kernel
theorem sc_power : FnScope N_power ["base", "many"] (defScope s_power) := ⟨rfl, rfl, rfl, nd_power, rfl, by decide +kernel, by decide +kernel⟩
def t_power : DS :=
    (dThen (dSet 2 (dC (.int 1)))
      (dThen (dFor (dRng1 (dCons (dVar 1) dNil)) (dgName 3) (dSet 2 (dOp dMul (dVar 2) (dVar 0))))
      (dRet (dVar 2))))
def f_power : List PyData → M PyData := fun ds Q E => ds.length = 2 ∧ dFn t_power N_power ds Q E
theorem f_power_eq {a0 a1 : PyData} {Q : PyData → Prop} {E : Value → Prop} : f_power [a0, a1] Q E ↔ t_power { nx := fun _ => Q .none, rt := Q, ex := E } [.dat a0, .dat a1, .no, .no] := ⟨fun h => h.2, fun h => ⟨rfl, h⟩⟩
abbrev s_stands : Stmt := top 12
abbrev N_stands : List Str := ["maker"]
theorem nd_stands : N_stands.Nodup := by decide +kernel
theorem sc_stands : FnScope N_stands ["maker"] (defScope s_stands) := ⟨rfl, rfl, rfl, nd_stands, rfl, by decide +kernel, by decide +kernel⟩
def t_stands : DS :=
    (dThen (dIf (dTest (dOp dEq (dOp dIx (dVar 0) (dC (.int 0))) (dC (.str "sums")))) (dRet (dOp dIx (dVar 0) (dC (.int 1)))) dNext)
      (dThen (dIf (dTest (dOp dEq (dOp dIx (dVar 0) (dC (.int 0))) (dC (.str "bits")))) (dRet (dCall f_power (dCons (dC (.int 2)) (dCons (dOp dIx (dVar 0) (dC (.int 1))) dNil)))) dNext)
      (dRet (dCall dLen (dCons (dOp dIx (dVar 0) (dC (.int 1))) dNil)))))
def f_stands : List PyData → M PyData := fun ds Q E => ds.length = 1 ∧ dFn t_stands N_stands ds Q E
theorem f_stands_eq {a0 : PyData} {Q : PyData → Prop} {E : Value → Prop} : f_stands [a0] Q E ↔ t_stands { nx := fun _ => Q .none, rt := Q, ex := E } [.dat a0] := ⟨fun h => h.2, fun h => ⟨rfl, h⟩⟩
abbrev s_step : Stmt := top 13
abbrev N_step : List Str := ["maker", "stand", "odd", "tap"]
theorem nd_step : N_step.Nodup := by decide +kernel
theorem sc_step : FnScope N_step ["maker", "stand"] (defScope s_step) := ⟨rfl, rfl, rfl, nd_step, rfl, by decide +kernel, by decide +kernel⟩
def t_step : DS :=
    (dThen (dIf (dTest (dOp dEq (dOp dIx (dVar 0) (dC (.int 0))) (dC (.str "sums")))) (dRet (dOp dMod (dOp dAdd (dOp dMul (dOp dIx (dVar 0) (dC (.int 2))) (dVar 1)) (dOp dIx (dVar 0) (dC (.int 3)))) (dOp dIx (dVar 0) (dC (.int 1))))) dNext)
      (dThen (dIf (dTest (dOp dEq (dOp dIx (dVar 0) (dC (.int 0))) (dC (.str "bits")))) (dThen (dSet 2 (dOp dMod (dCallQ dSumQ (dSeq (dAsL (dLc (dIt (dOp dIx (dVar 0) (dC (.int 2)))) (dgName 3) dYes (dOp dMod (dOp dDiv (dVar 1) (dCall f_power (dCons (dC (.int 2)) (dCons (dVar 3) dNil)))) (dC (.int 2))) [3])))) (dC (.int 2))))
      (dRet (dOp dAdd (dOp dMod (dOp dMul (dC (.int 2)) (dVar 1)) (dCall f_stands (dCons (dVar 0) dNil))) (dVar 2)))) dNext)
      (dRet (dOp dIx (dOp dIx (dVar 0) (dC (.int 1))) (dVar 1)))))
def f_step : List PyData → M PyData := fun ds Q E => ds.length = 2 ∧ dFn t_step N_step ds Q E
theorem f_step_eq {a0 a1 : PyData} {Q : PyData → Prop} {E : Value → Prop} : f_step [a0, a1] Q E ↔ t_step { nx := fun _ => Q .none, rt := Q, ex := E } [.dat a0, .dat a1, .no, .no] := ⟨fun h => h.2, fun h => ⟨rfl, h⟩⟩
abbrev s_faces_many : Stmt := top 14
abbrev N_faces_many : List Str := ["maker"]
theorem nd_faces_many : N_faces_many.Nodup := by decide +kernel
theorem sc_faces_many : FnScope N_faces_many ["maker"] (defScope s_faces_many) := ⟨rfl, rfl, rfl, nd_faces_many, rfl, by decide +kernel, by decide +kernel⟩
def t_faces_many : DS :=
    (dRet (dOp dIx (dVar 0) (dNeg (dC (.int 1)))))
def f_faces_many : List PyData → M PyData := fun ds Q E => ds.length = 1 ∧ dFn t_faces_many N_faces_many ds Q E
theorem f_faces_many_eq {a0 : PyData} {Q : PyData → Prop} {E : Value → Prop} : f_faces_many [a0] Q E ↔ t_faces_many { nx := fun _ => Q .none, rt := Q, ex := E } [.dat a0] := ⟨fun h => h.2, fun h => ⟨rfl, h⟩⟩
abbrev s_face : Stmt := top 15
abbrev N_face : List Str := ["maker", "stand"]
theorem nd_face : N_face.Nodup := by decide +kernel
theorem sc_face : FnScope N_face ["maker", "stand"] (defScope s_face) := ⟨rfl, rfl, rfl, nd_face, rfl, by decide +kernel, by decide +kernel⟩
def t_face : DS :=
    (dThen (dIf (dTest (dOp dEq (dOp dIx (dVar 0) (dC (.int 0))) (dC (.str "sums")))) (dRet (dOp dDiv (dOp dMul (dVar 1) (dOp dIx (dVar 0) (dC (.int 4)))) (dOp dIx (dVar 0) (dC (.int 1))))) dNext)
      (dThen (dIf (dTest (dOp dEq (dOp dIx (dVar 0) (dC (.int 0))) (dC (.str "bits")))) (dRet (dOp dMod (dVar 1) (dOp dIx (dVar 0) (dC (.int 3))))) dNext)
      (dRet (dOp dIx (dOp dIx (dVar 0) (dC (.int 2))) (dVar 1)))))
def f_face : List PyData → M PyData := fun ds Q E => ds.length = 2 ∧ dFn t_face N_face ds Q E
theorem f_face_eq {a0 a1 : PyData} {Q : PyData → Prop} {E : Value → Prop} : f_face [a0, a1] Q E ↔ t_face { nx := fun _ => Q .none, rt := Q, ex := E } [.dat a0, .dat a1] := ⟨fun h => h.2, fun h => ⟨rfl, h⟩⟩
abbrev s_drawn : Stmt := top 16
abbrev N_drawn : List Str := ["maker", "stand", "many", "found", "turn"]
theorem nd_drawn : N_drawn.Nodup := by decide +kernel
theorem sc_drawn : FnScope N_drawn ["maker", "stand", "many"] (defScope s_drawn) := ⟨rfl, rfl, rfl, nd_drawn, rfl, by decide +kernel, by decide +kernel⟩
def t_drawn : DS :=
    (dThen (dSet 3 (dTup dNil))
      (dThen (dFor (dRng1 (dCons (dVar 2) dNil)) (dgName 4) (dThen (dSet 3 (dOp dAdd (dVar 3) (dTup (dCons (dCall f_face (dCons (dVar 0) (dCons (dVar 1) dNil))) dNil))))
      (dSet 1 (dCall f_step (dCons (dVar 0) (dCons (dVar 1) dNil))))))
      (dRet (dVar 3))))
def f_drawn : List PyData → M PyData := fun ds Q E => ds.length = 3 ∧ dFn t_drawn N_drawn ds Q E
theorem f_drawn_eq {a0 a1 a2 : PyData} {Q : PyData → Prop} {E : Value → Prop} : f_drawn [a0, a1, a2] Q E ↔ t_drawn { nx := fun _ => Q .none, rt := Q, ex := E } [.dat a0, .dat a1, .dat a2, .no, .no] := ⟨fun h => h.2, fun h => ⟨rfl, h⟩⟩
abbrev s_size_for : Stmt := top 19
abbrev N_size_for : List Str := ["sides", "bound", "size", "reach"]
theorem nd_size_for : N_size_for.Nodup := by decide +kernel
theorem sc_size_for : FnScope N_size_for ["sides", "bound"] (defScope s_size_for) := ⟨rfl, rfl, rfl, nd_size_for, rfl, by decide +kernel, by decide +kernel⟩
def t_size_for : DS :=
    (dThen (dSet 2 (dC (.int 0)))
      (dThen (dSet 3 (dC (.int 1)))
      (dThen (dWhile (dTest (dOp dLt (dVar 3) (dVar 1))) (dThen (dSet 3 (dOp dMul (dVar 3) (dVar 0)))
      (dSet 2 (dOp dAdd (dVar 2) (dC (.int 1))))))
      (dRet (dVar 2)))))
def f_size_for : List PyData → M PyData := fun ds Q E => ds.length = 2 ∧ dFn t_size_for N_size_for ds Q E
theorem f_size_for_eq {a0 a1 : PyData} {Q : PyData → Prop} {E : Value → Prop} : f_size_for [a0, a1] Q E ↔ t_size_for { nx := fun _ => Q .none, rt := Q, ex := E } [.dat a0, .dat a1, .no, .no] := ⟨fun h => h.2, fun h => ⟨rfl, h⟩⟩
abbrev s_below : Stmt := top 20
abbrev N_below : List Str := ["maker", "stand", "bound", "size", "turn", "number", "side", "one"]
theorem nd_below : N_below.Nodup := by decide +kernel
theorem sc_below : FnScope N_below ["maker", "stand", "bound"] (defScope s_below) := ⟨rfl, rfl, rfl, nd_below, rfl, by decide +kernel, by decide +kernel⟩
def t_below : DS :=
    (dThen (dSet 3 (dCall f_size_for (dCons (dCall f_faces_many (dCons (dVar 0) dNil)) (dCons (dVar 2) dNil))))
      (dThen (dFor (dRng2 (dCons (dC (.int 1)) (dCons (dOp dAdd (dC (.int 1000)) (dC (.int 1))) dNil))) (dgName 4) (dThen (dSet 5 (dC (.int 0)))
      (dThen (dFor (dIt (dCall f_drawn (dCons (dVar 0) (dCons (dVar 1) (dCons (dVar 3) dNil))))) (dgName 6) (dSet 5 (dOp dAdd (dOp dMul (dVar 5) (dCall f_faces_many (dCons (dVar 0) dNil))) (dVar 6))))
      (dThen (dFor (dRng1 (dCons (dVar 3) dNil)) (dgName 7) (dSet 1 (dCall f_step (dCons (dVar 0) (dCons (dVar 1) dNil)))))
      (dIf (dTest (dOp dLt (dVar 5) (dVar 2))) (dRet (dTup (dCons (dVar 5) (dCons (dVar 1) (dCons (dOp dMul (dVar 4) (dVar 3)) dNil))))) dNext)))))
      (dRaise (xT "NoEnd"))))
def f_below : List PyData → M PyData := fun ds Q E => ds.length = 3 ∧ dFn t_below N_below ds Q E
theorem f_below_eq {a0 a1 a2 : PyData} {Q : PyData → Prop} {E : Value → Prop} : f_below [a0, a1, a2] Q E ↔ t_below { nx := fun _ => Q .none, rt := Q, ex := E } [.dat a0, .dat a1, .dat a2, .no, .no, .no, .no, .no] := ⟨fun h => h.2, fun h => ⟨rfl, h⟩⟩
abbrev s_mixed : Stmt := top 21
abbrev N_mixed : List Str := ["maker", "stand", "row", "found", "at", "number", "taken"]
theorem nd_mixed : N_mixed.Nodup := by decide +kernel
theorem sc_mixed : FnScope N_mixed ["maker", "stand", "row"] (defScope s_mixed) := ⟨rfl, rfl, rfl, nd_mixed, rfl, by decide +kernel, by decide +kernel⟩
def t_mixed : DS :=
    (dThen (dSetO 3 (dSeqL (dSeq (dVar 2))))
      (dThen (dFor (dRng3 (dCons (dOp dSub (dCall dLen (dCons (dVar 2) dNil)) (dC (.int 1))) (dCons (dC (.int 0)) (dCons (dNeg (dC (.int 1))) dNil)))) (dgName 4) (dThen (dAsg (dCall f_below (dCons (dVar 0) (dCons (dVar 1) (dCons (dOp dAdd (dVar 4) (dC (.int 1))) dNil)))) (dgTup 3 (dgCons (dgName 5) (dgCons (dgName 1) (dgCons (dgName 6) dgNil)))))
      (dAsg (dTup (dCons (dIxQ (dOwn 3) (dVar 5)) (dCons (dIxQ (dOwn 3) (dVar 4)) dNil))) (dgTup 2 (dgCons (dgSub 3 (dVar 4)) (dgCons (dgSub 3 (dVar 5)) dgNil))))))
      (dRet (dTup (dCons (dCallQ (fun b ds Q E => b = true ∧ dTupQ b ds Q E) (dOwn 3)) (dCons (dVar 1) dNil))))))
def f_mixed : List PyData → M PyData := fun ds Q E => ds.length = 3 ∧ dFn t_mixed N_mixed ds Q E
theorem f_mixed_eq {a0 a1 a2 : PyData} {Q : PyData → Prop} {E : Value → Prop} : f_mixed [a0, a1, a2] Q E ↔ t_mixed { nx := fun _ => Q .none, rt := Q, ex := E } [.dat a0, .dat a1, .dat a2, .no, .no, .no, .no] := ⟨fun h => h.2, fun h => ⟨rfl, h⟩⟩
abbrev s_orders : Stmt := top 22
abbrev N_orders : List Str := ["maker", "many", "book", "stand", "order"]
theorem nd_orders : N_orders.Nodup := by decide +kernel
theorem sc_orders : FnScope N_orders ["maker", "many"] (defScope s_orders) := ⟨rfl, rfl, rfl, nd_orders, rfl, by decide +kernel, by decide +kernel⟩
def t_orders : DS :=
    (dThenP (dSetM 2 dNewN)
      (dThenP (dFor (dRng1 (dCons (dCall f_stands (dCons (dVar 0) dNil)) dNil)) (dgName 3) (dThen (dSet 4 (dOp dIx (dCall f_mixed (dCons (dVar 0) (dCons (dVar 3) (dCons (dRgT (dRg1 (dVar 1))) dNil)))) (dC (.int 0))))
      (dPutN 2 (dOp dAdd (dGetN (dSlN 2) (dVar 4) (dC (.int 0))) (dC (.int 1))) (dVar 4))))
      (dRet (dTupP (dSeq (dAsL (dSortIt (dSlN 2))))))))
def f_orders : List PyData → M PyData := fun ds Q E => ds.length = 2 ∧ t_orders { nx := fun _ => False, rt := Q, ex := E } (startD N_orders ds)
theorem f_orders_eq {a0 a1 : PyData} {Q : PyData → Prop} {E : Value → Prop} : f_orders [a0, a1] Q E ↔ t_orders { nx := fun _ => False, rt := Q, ex := E } [.dat a0, .dat a1, .no, .no, .no] := ⟨fun h => h.2, fun h => ⟨rfl, h⟩⟩
abbrev s_expected : Stmt := top 23
abbrev N_expected : List Str := ["many", "found", "one"]
theorem nd_expected : N_expected.Nodup := by decide +kernel
theorem sc_expected : FnScope N_expected ["many"] (defScope s_expected) := ⟨rfl, rfl, rfl, nd_expected, rfl, by decide +kernel, by decide +kernel⟩
def t_expected : DS :=
    (dThen (dSet 1 (dC (.int 1)))
      (dThen (dFor (dRng2 (dCons (dC (.int 2)) (dCons (dOp dAdd (dVar 0) (dC (.int 1))) dNil))) (dgName 2) (dSet 1 (dOp dMul (dVar 1) (dVar 2))))
      (dRet (dCall f_fraction (dCons (dC (.int 1)) (dCons (dVar 1) dNil))))))
def f_expected : List PyData → M PyData := fun ds Q E => ds.length = 1 ∧ dFn t_expected N_expected ds Q E
theorem f_expected_eq {a0 : PyData} {Q : PyData → Prop} {E : Value → Prop} : f_expected [a0] Q E ↔ t_expected { nx := fun _ => Q .none, rt := Q, ex := E } [.dat a0, .no, .no] := ⟨fun h => h.2, fun h => ⟨rfl, h⟩⟩
abbrev s_xlaw_cell_at : Stmt := top 25
abbrev N_xlaw_cell_at : List Str := ["script", "k"]
theorem nd_xlaw_cell_at : N_xlaw_cell_at.Nodup := by decide +kernel
theorem sc_xlaw_cell_at : FnScope N_xlaw_cell_at ["script", "k"] (defScope s_xlaw_cell_at) := ⟨rfl, rfl, rfl, nd_xlaw_cell_at, rfl, by decide +kernel, by decide +kernel⟩
def t_xlaw_cell_at : DS :=
    (dThen (dIf (dTest (dOp dLt (dVar 1) (dCall dLen (dCons (dVar 0) dNil)))) (dRet (dOp dIx (dVar 0) (dVar 1))) dNext)
      (dRet (dC (.int 0))))
def f_xlaw_cell_at : List PyData → M PyData := fun ds Q E => ds.length = 2 ∧ dFn t_xlaw_cell_at N_xlaw_cell_at ds Q E
theorem f_xlaw_cell_at_eq {a0 a1 : PyData} {Q : PyData → Prop} {E : Value → Prop} : f_xlaw_cell_at [a0, a1] Q E ↔ t_xlaw_cell_at { nx := fun _ => Q .none, rt := Q, ex := E } [.dat a0, .dat a1] := ⟨fun h => h.2, fun h => ⟨rfl, h⟩⟩
abbrev s_xlaw_mixed : Stmt := top 26
abbrev N_xlaw_mixed : List Str := ["script", "k", "drew"]
theorem nd_xlaw_mixed : N_xlaw_mixed.Nodup := by decide +kernel
theorem sc_xlaw_mixed : FnScope N_xlaw_mixed ["script", "k"] (defScope s_xlaw_mixed) := ⟨rfl, rfl, rfl, nd_xlaw_mixed, rfl, by decide +kernel, by decide +kernel⟩
def t_xlaw_mixed : DS :=
    (dThen (dSet 2 (dOp dMod (dOp dMul (dOp dAdd (dOp dAdd (dCall f_xlaw_cell_at (dCons (dVar 0) (dCons (dVar 1) dNil))) (dOp dMul (dC (.int 7919)) (dVar 1))) (dC (.int 1))) (dC (.int 48271))) (dC (.int 2147483647))))
      (dRet (dOp dMod (dOp dAdd (dOp dAdd (dOp dMul (dVar 2) (dVar 2)) (dOp dMul (dC (.int 7)) (dVar 2))) (dVar 1)) (dC (.int 2147483629)))))
def f_xlaw_mixed : List PyData → M PyData := fun ds Q E => ds.length = 2 ∧ dFn t_xlaw_mixed N_xlaw_mixed ds Q E
theorem f_xlaw_mixed_eq {a0 a1 : PyData} {Q : PyData → Prop} {E : Value → Prop} : f_xlaw_mixed [a0, a1] Q E ↔ t_xlaw_mixed { nx := fun _ => Q .none, rt := Q, ex := E } [.dat a0, .dat a1, .no] := ⟨fun h => h.2, fun h => ⟨rfl, h⟩⟩
abbrev s_xlaw_drawn : Stmt := top 27
abbrev N_xlaw_drawn : List Str := ["number", "k", "drew"]
theorem nd_xlaw_drawn : N_xlaw_drawn.Nodup := by decide +kernel
theorem sc_xlaw_drawn : FnScope N_xlaw_drawn ["number", "k"] (defScope s_xlaw_drawn) := ⟨rfl, rfl, rfl, nd_xlaw_drawn, rfl, by decide +kernel, by decide +kernel⟩
def t_xlaw_drawn : DS :=
    (dThen (dSet 2 (dOp dMod (dOp dMul (dOp dAdd (dOp dAdd (dVar 0) (dOp dMul (dC (.int 104729)) (dVar 1))) (dC (.int 17))) (dC (.int 69621))) (dC (.int 2147483647))))
      (dRet (dOp dMod (dOp dAdd (dOp dAdd (dOp dMul (dVar 2) (dVar 2)) (dOp dMul (dC (.int 3)) (dVar 2))) (dVar 1)) (dC (.int 2147483629)))))
def f_xlaw_drawn : List PyData → M PyData := fun ds Q E => ds.length = 2 ∧ dFn t_xlaw_drawn N_xlaw_drawn ds Q E
theorem f_xlaw_drawn_eq {a0 a1 : PyData} {Q : PyData → Prop} {E : Value → Prop} : f_xlaw_drawn [a0, a1] Q E ↔ t_xlaw_drawn { nx := fun _ => Q .none, rt := Q, ex := E } [.dat a0, .dat a1, .no] := ⟨fun h => h.2, fun h => ⟨rfl, h⟩⟩
abbrev s_xlaw_maker : Stmt := top 28
abbrev N_xlaw_maker : List Str := ["number", "most", "faces", "kind", "drew", "many", "nexts", "sides", "taps", "tap", "k", "one"]
theorem nd_xlaw_maker : N_xlaw_maker.Nodup := by decide +kernel
theorem sc_xlaw_maker : FnScope N_xlaw_maker ["number", "most"] (defScope s_xlaw_maker) := ⟨rfl, rfl, rfl, nd_xlaw_maker, rfl, by decide +kernel, by decide +kernel⟩
def t_xlaw_maker : DS :=
    (dThen (dSet 2 (dOp dAdd (dC (.int 2)) (dOp dMod (dVar 0) (dC (.int 5)))))
      (dThen (dSet 3 (dOp dMod (dOp dDiv (dVar 0) (dC (.int 8))) (dC (.int 3))))
      (dThen (dSet 4 (dOp dDiv (dCall f_xlaw_drawn (dCons (dVar 0) (dCons (dC (.int 1)) dNil))) (dC (.int 16))))
      (dThen (dIf (dTest (dOp dEq (dVar 3) (dC (.int 0)))) (dRet (dTup (dCons (dC (.str "sums")) (dCons (dOp dAdd (dC (.int 1)) (dOp dMod (dVar 4) (dVar 1))) (dCons (dOp dMod (dOp dDiv (dVar 4) (dC (.int 64))) (dC (.int 64))) (dCons (dOp dMod (dOp dDiv (dVar 4) (dC (.int 4096))) (dC (.int 64))) (dCons (dVar 2) dNil))))))) dNext)
      (dThen (dIf (dTest (dOp dEq (dVar 3) (dC (.int 1)))) (dThen (dSet 5 (dOp dAdd (dC (.int 1)) (dOp dMod (dVar 4) (dOp dIx (dTup (dCons (dC (.int 2)) (dCons (dC (.int 4)) (dCons (dC (.int 6)) dNil)))) (dCall dMin2 (dCons (dC (.int 2)) (dCons (dOp dDiv (dVar 1) (dC (.int 16))) dNil)))))))
      (dThen (dSet 8 (dAsL (dLc (dRng1 (dCons (dVar 5) dNil)) (dgName 9) (dTest (dOp dEq (dOp dMod (dOp dDiv (dVar 4) (dOp dIx (dTup (dCons (dC (.int 64)) (dCons (dC (.int 128)) (dCons (dC (.int 256)) (dCons (dC (.int 512)) (dCons (dC (.int 1024)) (dCons (dC (.int 2048)) dNil))))))) (dVar 9))) (dC (.int 2))) (dC (.int 1)))) (dVar 9) [9])))
      (dRet (dTup (dCons (dC (.str "bits")) (dCons (dVar 5) (dCons (dCall dTupOf (dCons (dOp dAdd (dVar 8) (dAsL (dRep (dLst (dCons (dOp dSub (dVar 5) (dC (.int 1))) dNil)) (dCall dIntOf (dCons (dOp dEq (dVar 8) (dAsL (dLst dNil))) dNil))))) dNil)) (dCons (dVar 2) dNil)))))))) dNext)
      (dThen (dSet 5 (dOp dAdd (dC (.int 1)) (dOp dMod (dVar 4) (dVar 1))))
      (dThen (dSet 6 (dCall dTupOf (dCons (dAsL (dLc (dRng1 (dCons (dVar 5) dNil)) (dgName 10) dYes (dOp dMod (dOp dDiv (dCall f_xlaw_drawn (dCons (dVar 0) (dCons (dOp dAdd (dC (.int 10)) (dVar 10)) dNil))) (dC (.int 16))) (dVar 5)) [10])) dNil)))
      (dThen (dIf (dTest (dOp dEq (dOp dMod (dOp dDiv (dVar 4) (dC (.int 64))) (dC (.int 3))) (dC (.int 0)))) (dSet 6 (dCall dTupOf (dCons (dAsL (dSortK (dVar 5) 11 (dCall f_xlaw_drawn (dCons (dVar 0) (dCons (dOp dAdd (dC (.int 10)) (dVar 11)) dNil))))) dNil))) dNext)
      (dThen (dSet 7 (dCall dTupOf (dCons (dAsL (dLc (dRng1 (dCons (dVar 5) dNil)) (dgName 10) dYes (dOp dMod (dOp dDiv (dCall f_xlaw_drawn (dCons (dVar 0) (dCons (dOp dAdd (dC (.int 90)) (dVar 10)) dNil))) (dC (.int 16))) (dOp dIx (dTup (dCons (dVar 2) (dCons (dC (.int 2)) dNil))) (dOp dMod (dOp dDiv (dVar 4) (dC (.int 256))) (dC (.int 2))))) [10])) dNil)))
      (dRet (dTup (dCons (dC (.str "table")) (dCons (dVar 6) (dCons (dVar 7) (dCons (dVar 2) dNil)))))))))))))))
def f_xlaw_maker : List PyData → M PyData := fun ds Q E => ds.length = 2 ∧ dFn t_xlaw_maker N_xlaw_maker ds Q E
theorem f_xlaw_maker_eq {a0 a1 : PyData} {Q : PyData → Prop} {E : Value → Prop} : f_xlaw_maker [a0, a1] Q E ↔ t_xlaw_maker { nx := fun _ => Q .none, rt := Q, ex := E } [.dat a0, .dat a1, .no, .no, .no, .no, .no, .no, .no, .no, .no, .no] := ⟨fun h => h.2, fun h => ⟨rfl, h⟩⟩
abbrev s_xlaw_frac : Stmt := top 29
abbrev N_xlaw_frac : List Str := ["upper", "lower", "one", "other"]
theorem nd_xlaw_frac : N_xlaw_frac.Nodup := by decide +kernel
theorem sc_xlaw_frac : FnScope N_xlaw_frac ["upper", "lower"] (defScope s_xlaw_frac) := ⟨rfl, rfl, rfl, nd_xlaw_frac, rfl, by decide +kernel, by decide +kernel⟩
def t_xlaw_frac : DS :=
    (dThen (dPar 2 3 (dCons (dCall dAbs (dCons (dVar 0) dNil)) (dCons (dVar 1) dNil)))
      (dThen (dWhile (dTest (dOp dNe (dVar 3) (dC (.int 0)))) (dPar 2 3 (dCons (dVar 3) (dCons (dOp dMod (dVar 2) (dVar 3)) dNil))))
      (dRet (dTup (dCons (dOp dDiv (dVar 0) (dVar 2)) (dCons (dOp dDiv (dVar 1) (dVar 2)) dNil))))))
def f_xlaw_frac : List PyData → M PyData := fun ds Q E => ds.length = 2 ∧ dFn t_xlaw_frac N_xlaw_frac ds Q E
theorem f_xlaw_frac_eq {a0 a1 : PyData} {Q : PyData → Prop} {E : Value → Prop} : f_xlaw_frac [a0, a1] Q E ↔ t_xlaw_frac { nx := fun _ => Q .none, rt := Q, ex := E } [.dat a0, .dat a1, .no, .no] := ⟨fun h => h.2, fun h => ⟨rfl, h⟩⟩
abbrev s_xlaw_told : Stmt := top 30
abbrev N_xlaw_told : List Str := ["deed", "e", "found", "kinds"]
theorem nd_xlaw_told : N_xlaw_told.Nodup := by decide +kernel
theorem sc_xlaw_told : FnScope N_xlaw_told ["deed"] (defScope s_xlaw_told) := ⟨rfl, rfl, rfl, nd_xlaw_told, rfl, by decide +kernel, by decide +kernel⟩
abbrev s_law : Stmt := top 31
abbrev N_law : List Str := ["script", "maker", "number", "few", "every", "found", "some", "book", "seen", "stand", "order", "one", "many"]
theorem nd_law : N_law.Nodup := by decide +kernel
theorem sc_law : FnScope N_law ["script"] (defScope s_law) := ⟨rfl, rfl, rfl, nd_law, rfl, by decide +kernel, by decide +kernel⟩
def t_law : DS :=
    (dThen (dSet 1 (dCall f_xlaw_maker (dCons (dCall f_xlaw_mixed (dCons (dVar 0) (dCons (dC (.int 0)) dNil))) (dCons (dC (.int 20)) dNil))))
      (dThen (dSet 2 (dCall f_xlaw_mixed (dCons (dVar 0) (dCons (dC (.int 1)) dNil))))
      (dThen (dSet 3 (dOp dAdd (dC (.int 1)) (dOp dMod (dVar 2) (dC (.int 4)))))
      (dThen (dSet 4 (dOp dIx (dTup (dCons (dC (.int 1)) (dCons (dC (.int 1)) (dCons (dC (.int 2)) (dCons (dC (.int 6)) (dCons (dC (.int 24)) dNil)))))) (dVar 3)))
      (dThen (dIf (dTest (dOp dNe (dCall f_expected (dCons (dVar 3) dNil)) (dCall f_xlaw_frac (dCons (dC (.int 1)) (dCons (dVar 4) dNil))))) (dRet (dC (.bool false))) dNext)
      (dThen (dSetTP 5 dcls3 (dCall f_orders (dCons (dVar 1) (dCons (dVar 3) dNil))))
      (dThen (dIf (dTest (dOp dEq (dOp dIx (dVarT 5) (dC (.int 0))) (dC (.str "refused")))) (dRet (dOp dEq (dVarT 5) (dTup (dCons (dC (.str "refused")) (dCons (dC (.int 0)) dNil))))) dNext)
      (dThen (dItemP 6 5)
      (dThen (dIf (dOr (dTest (dOp dNe (dAsL (dSeqL (dSeq (dVarP 6)))) (dAsL (dSortD (dSeq (dVarP 6)))))) (dOr (dTest (dOp dNe (dCallQ dSumQ (dSeq (dAsL (dLc (dIt (dVarP 6)) (dgTup 2 (dgCons (dgName 10) (dgCons (dgName 12) dgNil))) dYes (dVar 12) [10, 12])))) (dCall f_stands (dCons (dVar 1) dNil)))) (dTest (dOp dGt (dCall dLen (dCons (dVarP 6) dNil)) (dVar 4))))) (dRet (dC (.bool false))) dNext)
      (dThen (dSetDct 7 (dDictT (dVarP 6)))
      (dThen (dIf (dOr (dTest (dOp dNe (dLenD 7) (dCall dLen (dCons (dVarP 6) dNil)))) (dTest (dOp dNe (dAsL (dLc (dKeysD 7) (dgName 11) (dTest (dOp dNe (dAsL (dSortD (dSeq (dVar 11)))) (dAsL (dRgL (dRg1 (dVar 3)))))) (dVar 11) [11])) (dAsL (dLst dNil))))) (dRet (dC (.bool false))) dNext)
      (dThen (dSetM 8 dNewN)
      (dThen (dFor (dRng1 (dCons (dCall f_stands (dCons (dVar 1) dNil)) dNil)) (dgName 9) (dThen (dSet 10 (dOp dIx (dCallN f_mixed (dCons (dVar 1) (dCons (dVar 9) (dCons (dRgT (dRg1 (dVar 3))) dNil)))) (dC (.int 0))))
      (dPutN 8 (dOp dAdd (dGetN (dSlN 8) (dVar 10) (dC (.int 0))) (dC (.int 1))) (dVar 10))))
      (dRet (dAndV (dEqD 8 7) (dOrV (dOp dGt (dVar 3) (dC (.int 1))) (dOp dEq (dVarP 6) (dTup (dCons (dTup (dCons (dTup (dCons (dC (.int 0)) dNil)) (dCons (dCall f_stands (dCons (dVar 1) dNil)) dNil))) dNil)))))))))))))))))))
def f_law : List PyData → M PyData := fun ds Q E => ds.length = 1 ∧ dFn t_law N_law ds Q E
theorem f_law_eq {a0 : PyData} {Q : PyData → Prop} {E : Value → Prop} : f_law [a0] Q E ↔ t_law { nx := fun _ => Q .none, rt := Q, ex := E } [.dat a0, .no, .no, .no, .no, .no, .no, .no, .no, .no, .no, .no, .no] := ⟨fun h => h.2, fun h => ⟨rfl, h⟩⟩
end Dm
end
section
set_option Elab.async false
set_option linter.all false
set_option maxRecDepth 100000
set_option autoImplicit false
set_option maxHeartbeats 4000000
namespace Dm
open PySem L2 Fd
theorem c_power {b n : Nat} (hb : b ≤ 6) (hn : n ≤ 64) {Q : PyData → Prop} {E : Value → Prop} : f_power [nat b, nat n] Q E ↔ Q (nat (b ^ n)) := by
  rw [f_power_eq]
  have h1 : (n : Int) < 4611686018427387904 := by omega
  simp [t_power, b62, h1]
  rw [dFo_iff (S := Int) (fun _ => True) (fun s y => [.dat (nat b), .dat (nat n), .dat (.int s), y]) (fun s _ => s * b) (fun _ _ _ => rfl) _ (fun _ _ _ _ => trivial) (fun d _ s _ N => by
    have : CM s (b : Int) := CM.small2 (by omega)
    simp [this]) 1 _ trivial, foldl_pow]
  simp [rngD_length, nat]
theorem c_power2 {n : Nat} (hn : n ≤ 64) {Q : PyData → Prop} {E : Value → Prop} : f_power [.int 2, nat n] Q E ↔ Q (nat (2 ^ n)) := c_power (b := 2) (by decide) hn
theorem c_stands {m : Mk} (h : m.Ok) {Q : PyData → Prop} {E : Value → Prop} : f_stands [m.enc] Q E ↔ Q (nat m.size) := by
  rw [f_stands_eq]
  cases m with
  | sums n f m c => simp [t_stands, Mk.enc, Mk.size]
  | bits b ts c =>
    simp [t_stands, Mk.enc, Mk.size]
    exact c_power (b := 2) (by decide) (by have := h.2.1; omega)
  | tab ns fs c => simp [t_stands, Mk.enc, Mk.size]
theorem c_face {m : Mk} (h : m.Ok) {s : Nat} (hs : s < m.size) {Q : PyData → Prop} {E : Value → Prop} : f_face [m.enc, nat s] Q E ↔ Q (nat (m.face s)) := by
  rw [f_face_eq]
  cases m with
  | sums n f m c =>
    have hs : s < n := hs
    have hn := h.2.1
    have h1 : CM (s : Int) (c : Int) := CM.small (by omega)
    have h2 : CDivW ((s : Int) * c) (n : Int) := CDivW.small (by omega) (by omega)
    simp [t_face, Mk.enc, Mk.face, h1, h2, nat]
  | bits b ts c =>
    have hc : 0 < c := by have := h.2.2.2.2.2.1; omega
    simp [t_face, Mk.enc, Mk.face, hc, nat]
  | tab ns fs c =>
    have hs : s < fs.length := by rw [h.2.2.1]; exact hs
    simp [t_face, Mk.enc, Mk.face, nats_at hs]
theorem c_step {m : Mk} (h : m.Ok) {s : Nat} (hs : s < m.size) {Q : PyData → Prop} {E : Value → Prop} : f_step [m.enc, nat s] Q E ↔ Q (nat (m.step s)) := by
  rw [f_step_eq]
  cases m with
  | sums n f m c =>
    have hn : 0 < n := h.1
    have h1 : CM (f : Int) (s : Int) := CM.small (by have := h.2.2.1; omega)
    simp [t_step, Mk.enc, Mk.step, h1, hn, nat]
  | bits b ts c =>
    have hs : s < 2 ^ b := hs
    have hb := h.2.1
    have h64 := Mk.pow_le64 hb
    have hts := h.2.2.2.2.1
    have hlen : ts.length ≤ sizeLine := by
      have := nodup_le b ts (nodup_of_lt h.2.2.2.1) hts
      rw [line]; omega
    have h1 : CM (2 : Int) (s : Int) := CM.small (by decide)
    simp [t_step, Mk.enc, Mk.step, hlen, h1]
    rw [lc_map (fun d => match d with | .int t => nat (s / 2 ^ t.toNat % 2) | _ => .none)]
    · have e : (nats ts).map (fun d => match d with | .int t => nat (s / 2 ^ t.toNat % 2) | _ => .none) = (ts.map fun t => ((s / 2 ^ t % 2 : Nat) : Int)).map PyData.int := by
        rw [nats, List.map_map, List.map_map]
        apply List.map_congr_left
        intro t _
        simp [nat]
      rw [e, ex_ints]
      rw [show (PyData.tuple [.str "bits", nat b, .tuple (nats ts), nat c]) = (Mk.bits b ts c).enc from rfl, c_stands h]
      have e2 : (ts.map fun t => ((s / 2 ^ t % 2 : Nat) : Int)).sum = (((ts.map fun t => s / 2 ^ t % 2).sum : Nat) : Int) := by
        rw [← sum_cast, List.map_map]
        rfl
      rw [e2]
      have hp : (0 : Int) < ((2 ^ b : Nat) : Int) := by have := Nat.pow_pos (n := b) (show 0 < 2 by decide); omega
      simp only [dMod, dI, Mk.size, nat, dAdd, hp, true_and]
      have e3 : (2 * (s : Int)) % ((2 ^ b : Nat) : Int) + (((ts.map fun t => s / 2 ^ t % 2).sum : Nat) : Int) % 2 = ((2 * s % 2 ^ b + Mk.odd ts s : Nat) : Int) := by
        unfold Mk.odd
        push_cast
        rfl
      rw [e3]
    · intro d hd Q1
      obtain ⟨t, ht, rfl⟩ := List.mem_map.mp hd
      have ht6 := hts t ht
      have hdiv : CDivW (s : Int) (2 ^ t : Int) := by
        have e : (2 ^ t : Int) = ((2 ^ t : Nat) : Int) := by simp
        rw [e]
        exact CDivW.small (by have := Nat.pow_pos (n := t) (show 0 < 2 by decide); omega) (by have := Mk.pow_le64 (show t ≤ 6 by omega); omega)
      simp [wipeD]
      rw [c_power2 (by omega)]
      simp [hdiv, nat]
  | tab ns fs c =>
    have hs : s < ns.length := hs
    simp [t_step, Mk.enc, Mk.step, nats_at hs]
theorem c_faces_many {m : Mk} {Q : PyData → Prop} {E : Value → Prop} : f_faces_many [m.enc] Q E ↔ Q (nat m.faces) := by
  rw [f_faces_many_eq]
  cases m <;> simp [t_faces_many, Mk.enc, Mk.faces]
theorem c_drawn {m : Mk} (h : m.Ok) {s : Nat} (hs : s < m.size) {k : Nat} (hk : k ≤ 16777216) {Q : PyData → Prop} {E : Value → Prop} : f_drawn [m.enc, nat s, nat k] Q E ↔ Q (.tuple (nats (m.draw k s))) := by
  rw [f_drawn_eq]
  have hb : b62 (k : Int) := b62_nat hk
  simp [t_drawn, hb, line]
  have gen : ∀ (ds : List PyData) (j : Nat) (y : Sl), ds.length + j = k → (dFo (dgName 4) (dThen (dSet 3 (dOp dAdd (dVar 3) (dTup (dCons (dCall f_face (dCons (dVar 0) (dCons (dVar 1) dNil))) dNil)))) (dSet 1 (dCall f_step (dCons (dVar 0) (dCons (dVar 1) dNil))))) ds
      { nx := dRet (dVar 3) { nx := fun x => Q PyData.none, rt := Q, ex := E }, rt := Q, ex := E } [Sl.dat m.enc, Sl.dat (nat (m.go j s)), Sl.dat (nat k), Sl.dat (.tuple (nats (m.draw j s))), y] ↔ Q (.tuple (nats (m.draw k s)))) := by
    intro ds
    induction ds with
    | nil =>
      intro j y hj
      have : j = k := by simpa using hj
      subst this
      simp [dFo]
    | cons d ds ih =>
      intro j y hj
      have hj' : ds.length + (j + 1) = k := by simp at hj; omega
      have hg := h.go_lt j hs
      have hlen : (m.draw j s).length + 1 ≤ sizeLine := by rw [Mk.draw_length, line]; simp at hj; omega
      have := ih (j + 1) (.dat d) hj'
      rw [← this, dFo]
      simp [c_face h hg, c_step h hg, hlen, line, Mk.draw_succ, Mk.go_succ, nats]
      intro hh
      have := Mk.draw_length m j s
      simp at hj
      omega
  have := gen (rngD 0 k) 0 .no (by simp [rngD_length])
  simpa [Mk.draw, Mk.go, nats] using this
theorem c_cell_at {ns : List Int} {k : Nat} {Q : PyData → Prop} {E : Value → Prop} : f_xlaw_cell_at [.list (ns.map .int), nat k] Q E ↔ Q (.int (ns.getD k 0)) := by
  rw [f_xlaw_cell_at_eq]
  by_cases hk : k < ns.length
  · have e : atI (ns.map PyData.int) (k : Int) = some (.int ns[k]) := Fd.atI_nat (by simp [hk])
    simp [t_xlaw_cell_at, hk, e, List.getD_eq_getElem?_getD]
  · simp [t_xlaw_cell_at, hk, List.getD_eq_getElem?_getD]
theorem c_mixed {ns : List Int} {k : Nat} {Q : PyData → Prop} {E : Value → Prop} : f_xlaw_mixed [.list (ns.map .int), nat k] Q E ↔ Q (nat (mixed ns k)) := by
  rw [f_xlaw_mixed_eq]
  have h1 : CM 7919 (k : Int) := CM.small (by decide)
  have h2 : CM (ns.getD k 0 + 7919 * k + 1) 48271 := CM.small2 (by decide)
  have d0 : 0 ≤ (ns.getD k 0 + 7919 * k + 1) * 48271 % 2147483647 := Int.emod_nonneg _ (by decide)
  have d1 : (ns.getD k 0 + 7919 * k + 1) * 48271 % 2147483647 < 2147483647 := Int.emod_lt_of_pos _ (by decide)
  have e : ((mixed ns k : Nat) : Int) = ((ns.getD k 0 + 7919 * k + 1) * 48271 % 2147483647 * ((ns.getD k 0 + 7919 * k + 1) * 48271 % 2147483647) + 7 * ((ns.getD k 0 + 7919 * k + 1) * 48271 % 2147483647) + k) % 2147483629 := by
    unfold mixed
    simp only
    rw [Int.toNat_of_nonneg (Int.emod_nonneg _ (by decide))]
  simp only [t_xlaw_mixed, nat] at *
  rw [e]
  generalize hd : (ns.getD k 0 + 7919 * k + 1) * 48271 % 2147483647 = d at *
  have h3 : CM d d := CM.small (by omega)
  have h4 : CM 7 d := CM.small (by decide)
  simp only [dThen, dSet, dOp, dVar, dC, dRet, dCall, dCons, dNil]
  simp [c_cell_at, h1]
  simp [← List.getD_eq_getElem?_getD, h2, hd, h3, h4]
theorem c_ldrawn {n k : Nat} {Q : PyData → Prop} {E : Value → Prop} : f_xlaw_drawn [nat n, nat k] Q E ↔ Q (nat (ldraw n k)) := by
  rw [f_xlaw_drawn_eq]
  have h1 : CM 104729 (k : Int) := CM.small (by decide)
  have h2 : CM ((n : Int) + 104729 * k + 17) 69621 := CM.small2 (by decide)
  have e : ((ldraw n k : Nat) : Int) = (((n : Int) + 104729 * k + 17) * 69621 % 2147483647 * (((n : Int) + 104729 * k + 17) * 69621 % 2147483647) + 3 * (((n : Int) + 104729 * k + 17) * 69621 % 2147483647) + k) % 2147483629 := by
    unfold ldraw
    simp only
    simp only [Int.natCast_emod, Int.natCast_add, Int.natCast_mul]
    rfl
  rw [show nat (ldraw n k) = .int (ldraw n k : Nat) from rfl, e]
  have d0 : 0 ≤ ((n : Int) + 104729 * k + 17) * 69621 % 2147483647 := Int.emod_nonneg _ (by decide)
  have d1 : ((n : Int) + 104729 * k + 17) * 69621 % 2147483647 < 2147483647 := Int.emod_lt_of_pos _ (by decide)
  generalize hd : ((n : Int) + 104729 * k + 17) * 69621 % 2147483647 = d at *
  have h3 : CM d d := CM.small (by omega)
  have h4 : CM 3 d := CM.small (by decide)
  simp [t_xlaw_drawn, h1, h2, hd, h3, h4]
theorem c_lmakerK {n most : Nat} (hm1 : 1 ≤ most) (hm : most ≤ 64) {Q : PyData → Prop} {E : Value → Prop} (H : ∀ m : Mk, m.Ok → m.size ≤ lmBound most → (m.size ≤ most ∨ ∃ b ts c, m = .bits b ts c) → Q m.enc) : f_xlaw_maker [nat n, nat most] Q E := by
  rw [f_xlaw_maker_eq]
  have hld : ∀ (a b : Nat) {Q : PyData → Prop} {E : Value → Prop}, f_xlaw_drawn [nat a, nat b] Q E ↔ Q (nat (ldraw a b)) := fun a b => c_ldrawn
  have hl1 : ∀ {Q : PyData → Prop} {E : Value → Prop}, f_xlaw_drawn [nat n, .int 1] Q E ↔ Q (nat (ldraw n 1)) := fun {Q E} => hld n 1
  have hd8 : CDivW (n : Int) 8 := CDivW.small (by decide) (by decide)
  have hd16 : CDivW (ldraw n 1 : Int) 16 := CDivW.small (by decide) (by decide)
  have hdm : CDivW (most : Int) 16 := CDivW.small (by decide) (by decide)
  have hmp : (0 : Int) < (most : Int) := by omega
  have hb1 : most ≤ lmBound most := Nat.le_max_left ..
  have hb2 : 2 ^ lmX most ≤ lmBound most := Nat.le_max_right ..
  have hx : 1 ≤ lmX most ∧ lmX most ≤ 6 := by unfold lmX; split <;> (try split) <;> decide
  simp only [t_xlaw_maker, dThen, dSet, dOp, dVar, dC, dCall, dCons, dNil, dIf, dTest]
  simp [hd8, hl1, hd16, hmp]
  obtain ⟨dr, hdr⟩ : ∃ dr : Nat, (ldraw n 1 : Int) / 16 = dr := ⟨ldraw n 1 / 16, by simp⟩
  rw [hdr]
  have c64 : CDivW (dr : Int) 64 := CDivW.small (by decide) (by decide)
  have c256 : CDivW (dr : Int) 256 := CDivW.small (by decide) (by decide)
  have c4096 : CDivW (dr : Int) 4096 := CDivW.small (by decide) (by decide)
  have hfc : 2 ≤ 2 + n % 5 ∧ 2 + n % 5 ≤ 6 := by omega
  have hmod : dr % most < most := Nat.mod_lt _ (by omega)
  by_cases k0 : (n : Int) / 8 % 3 = 0
  · rw [if_pos k0]
    refine ⟨hm1, c64, c4096, by rw [line]; decide, ?_⟩
    have := H (.sums (1 + dr % most) (dr / 64 % 64) (dr / 4096 % 64) (2 + n % 5)) ⟨by omega, by omega, by omega, by omega, hfc.1, hfc.2⟩ (by show 1 + dr % most ≤ _; omega) (.inl (by show 1 + dr % most ≤ _; omega))
    simpa [Mk.enc, nat] using this
  · rw [if_neg k0]
    by_cases k1 : (n : Int) / 8 % 3 = 1
    · rw [if_pos k1]
      refine ⟨by rw [line]; decide, hdm, nat (lmX most), lm_at, ?_⟩
      have hxp : 0 < lmX most := hx.1
      obtain ⟨b, hb⟩ : ∃ b : Nat, 1 + (dr : Int) % (lmX most : Int) = b := ⟨1 + dr % lmX most, by simp⟩
      have hbl : 1 ≤ b ∧ b ≤ lmX most := by
        have : dr % lmX most < lmX most := Nat.mod_lt _ hxp
        have e : b = 1 + dr % lmX most := by have := hb; simp only [← Int.natCast_emod] at this; omega
        omega
      have hb62 : b62 (b : Int) := b62_nat (by omega)
      have hbline : b ≤ sizeLine := by rw [line]; omega
      simp [hxp, hb, hb62, rngD_nat, hbline]
      have hlc := fun (r : Ev) (hr : ∀ t : Nat, (r.set 9 (.dat (nat t)))[4]? = some (.dat (nat dr)) ∧ (r.set 9 (.dat (nat t)))[9]? = some (.dat (nat t))) (Q1 : List PyData → Prop) => lc_natsF (i := 9) (tt := dTest (dOp dEq (dOp dMod (dOp dDiv (dVar 4) (dOp dIx (dTup (dCons (dC (.int 64)) (dCons (dC (.int 128)) (dCons (dC (.int 256)) (dCons (dC (.int 512)) (dCons (dC (.int 1024)) (dCons (dC (.int 2048)) dNil))))))) (dVar 9))) (dC (.int 2))) (dC (.int 1)))) (te := dVar 9) (r := r) (Q := Q1) (fun t => decide (dr / (64 * 2 ^ t) % 2 = 1)) nat (l := List.range b)
        (fun t ht Q2 => by
          have ht6 : t < 6 := by have := List.mem_range.mp ht; omega
          have hdiv : CDivW (dr : Int) (64 * 2 ^ t : Int) := by
            have e : (64 * 2 ^ t : Int) = ((64 * 2 ^ t : Nat) : Int) := by simp
            rw [e]
            exact CDivW.small (by have := Nat.pow_pos (n := t) (show 0 < 2 by decide); omega) (by have := Mk.pow_le64 (show t ≤ 6 by omega); omega)
          have e3 : ((dr : Int) / (64 * 2 ^ t) % 2 = 1) ↔ dr / (64 * 2 ^ t) % 2 = 1 := by
            have e : (64 * 2 ^ t : Int) = ((64 * 2 ^ t : Nat) : Int) := by simp
            rw [e, ← Int.natCast_ediv]
            omega
          simp [hr t, line]
          rw [pow64 ht6]
          simp [hdiv, e3])
        (fun t ht _ Q2 => by simp [hr t])
      rw [hlc _ (fun t => ⟨by simp [wipeD], by simp [wipeD]⟩)]
      generalize hF : List.filter (fun t => decide (dr / (64 * 2 ^ t) % 2 = 1)) (List.range b) = F
      have hFlt : ∀ t ∈ F, t < b := fun t ht => by
        rw [← hF] at ht
        exact List.mem_range.mp (List.mem_filter.mp ht).1
      have hFp : F.Pairwise (· < ·) := by rw [← hF]; exact (range_pw b).filter _
      have hFl : F.length ≤ b := nodup_le b F (nodup_of_lt hFp) hFlt
      have hsz : 2 ^ b ≤ lmBound most := Nat.le_trans (Nat.pow_le_pow_right (by decide) hbl.2) hb2
      cases F with
      | nil =>
        have := H (.bits b [b - 1] (2 + n % 5)) ⟨hbl.1, by omega, by simp, by simp, by simp; omega, hfc.1, hfc.2⟩ hsz (.inr ⟨_, _, _, rfl⟩)
        have eb : ((b - 1 : Nat) : Int) = (b : Int) - 1 := by omega
        have sh : SeqAt.shaped (.list []) = true := shaped_natsL []
        simp [line, sh]
        simpa [Mk.enc, nat, eb] using this
      | cons t F =>
        have := H (.bits b (t :: F) (2 + n % 5)) ⟨hbl.1, by omega, by simp, hFp, hFlt, hfc.1, hfc.2⟩ hsz (.inr ⟨_, _, _, rfl⟩)
        have sh : SeqAt.shaped (.list []) = true := shaped_natsL []
        have sh2 : SeqAt.shaped (.list (nat t :: List.map nat F)) = true := shaped_natsL (t :: F)
        have hl : F.length + 1 ≤ 16777216 := by simp at hFl; omega
        simp [line, sh, sh2, hl]
        simpa [Mk.enc, nat] using this
    · rw [if_neg k1]
      obtain ⟨b, hb⟩ : ∃ b : Nat, 1 + (dr : Int) % (most : Int) = b := ⟨1 + dr % most, by simp⟩
      have hbl : 1 ≤ b ∧ b ≤ most := by
        have e : b = 1 + dr % most := by have := hb; simp only [← Int.natCast_emod] at this; omega
        omega
      have hb62 : b62 (b : Int) := b62_nat (by omega)
      have hbline : b ≤ sizeLine := by rw [line]; omega
      simp [hb, hb62, rngD_nat, hbline, c64, c256, hm1]
      refine ⟨hm1, ?_⟩
      have hbp : 0 < b := hbl.1
      have hl10 : ∀ (k : Nat) {Q : PyData → Prop} {E : Value → Prop}, f_xlaw_drawn [nat n, .int (10 + (k : Int))] Q E ↔ Q (nat (ldraw n (10 + k))) := fun k {Q E} => by
        have := hld n (10 + k) (Q := Q) (E := E)
        rw [← this]
        simp [nat]
      have hl90 : ∀ (k : Nat) {Q : PyData → Prop} {E : Value → Prop}, f_xlaw_drawn [nat n, .int (90 + (k : Int))] Q E ↔ Q (nat (ldraw n (90 + k))) := fun k {Q E} => by
        have := hld n (90 + k) (Q := Q) (E := E)
        rw [← this]
        simp [nat]
      have cd : ∀ k, CDivW (ldraw n k : Int) 16 := fun k => CDivW.small (by decide) (by decide)
      rw [lc_nats (fun k => nat (ldraw n (10 + k) / 16 % b)) (fun k hk Q1 => by
        simp [wipeD]
        rw [hl10]
        simp [cd, hbp, nat])]
      obtain ⟨g, hg, hat⟩ : ∃ g : Nat, (1 ≤ g ∧ g ≤ 2 + n % 5) ∧ atI [PyData.int (2 + (n : Int) % 5), .int 2] ((dr : Int) / 256 % 2) = some (nat g) := by
        by_cases hz : (dr : Int) / 256 % 2 = 0
        · exact ⟨2 + n % 5, by omega, by rw [hz]; simp [nat]⟩
        · exact ⟨2, by omega, by rw [show (dr : Int) / 256 % 2 = 1 by omega]; simp [nat]⟩
      have sides : ∀ (d : Sl) (Q1 : List PyData → Prop), Q1 (nats ((List.range b).map fun k => ldraw n (90 + k) / 16 % g)) → dLcGo (dgName 10) dYes
          (dOp dMod (dOp dDiv (dCall f_xlaw_drawn (dCons (dVar 0) (dCons (dOp dAdd (dC (PyData.int 90)) (dVar 10)) dNil))) (dC (PyData.int 16)))
            (dOp dIx (dTup (dCons (dVar 2) (dCons (dC (PyData.int 2)) dNil))) (dOp dMod (dOp dDiv (dVar 4) (dC (PyData.int 256))) (dC (PyData.int 2)))))
          (wipeD [Sl.dat (nat n), Sl.dat (nat most), Sl.dat (PyData.int (2 + ↑n % 5)), Sl.dat (PyData.int (↑n / 8 % 3)), Sl.dat (PyData.int ↑dr), Sl.dat (PyData.int ↑b), d, Sl.no, Sl.no, Sl.no, Sl.no, Sl.no] [10])
          Q1 (nats (List.range b)) [] := by
        intro d Q1 q
        rw [lc_nats (fun k => nat (ldraw n (90 + k) / 16 % g)) (fun k hk Q1 => by
          have hgp : 0 < g := hg.1
          simp [wipeD]
          rw [hl90]
          simp [cd, c256, line, hat, hgp, nat])]
        simpa [nats, Function.comp_def] using q
      have fin : ∀ ns : List Nat, ns.length = b → (∀ x ∈ ns, x < b) → Q (PyData.tuple [PyData.str "table", PyData.tuple (nats ns), PyData.tuple (nats ((List.range b).map fun k => ldraw n (90 + k) / 16 % g)), PyData.int (2 + ↑n % 5)]) := by
        intro ns hl hlt
        have := H (.tab ns ((List.range b).map fun k => ldraw n (90 + k) / 16 % g) (2 + n % 5)) ⟨by omega, by omega, by simp [hl], by rw [hl]; exact hlt, fun y hy => by
          obtain ⟨k, _, rfl⟩ := List.mem_map.mp hy
          have : ldraw n (90 + k) / 16 % g < g := Nat.mod_lt _ hg.1
          omega, hfc.1, hfc.2⟩ (by show ns.length ≤ _; omega) (.inl (by show ns.length ≤ _; omega))
        simpa [Mk.enc, nat] using this
      by_cases k3 : (dr : Int) / 64 % 3 = 0
      · rw [if_pos k3]
        unfold dSortK
        simp only [dVar]
        simp
        refine ⟨⟨by omega, by omega, by omega, by omega, by omega⟩, (List.range b).map fun i => (ldraw n (10 + i) : Int), by simp, ?_, ?_⟩
        · intro i k hk
          simp at hk
          obtain ⟨w, hw, rfl⟩ := hk
          obtain ⟨h1, h2⟩ := List.getElem?_eq_some_iff.mp hw
          simp at h2
          subst h2
          rw [hl10]
        · intro out hp
          obtain ⟨l, e, hl⟩ := perm_nats hp
          rw [e]
          refine sides _ _ ⟨by rw [line]; decide, fin l (by simpa using hl.length_eq) fun x hx => List.mem_range.mp (hl.mem_iff.mp hx)⟩
      · rw [if_neg k3]
        refine sides _ _ ⟨by rw [line]; decide, ?_⟩
        have := fin ((List.range b).map fun k => ldraw n (10 + k) / 16 % b) (by simp) (fun x hx => by
          obtain ⟨k, _, rfl⟩ := List.mem_map.mp hx
          exact Nat.mod_lt _ hbp)
        simpa [nats, Function.comp_def] using this
theorem c_lmaker {n most : Nat} (hm1 : 1 ≤ most) (hm : most ≤ 64) {Q : PyData → Prop} {E : Value → Prop} (H : ∀ m : Mk, m.Ok → m.size ≤ lmBound most → Q m.enc) : f_xlaw_maker [nat n, nat most] Q E := c_lmakerK hm1 hm fun m a b _ => H m a b
theorem size_loop {c B : Nat} (hc : 2 ≤ c) (hc6 : c ≤ 6) {D : DEnds} : ∀ (n j : Nat), j ≤ sizeFor c B →
    (dWl (dTest (dOp dLt (dVar 3) (dVar 1))) (dThen (dSet 3 (dOp dMul (dVar 3) (dVar 0))) (dSet 2 (dOp dAdd (dVar 2) (dC (.int 1))))) n D [.dat (nat c), .dat (nat B), .dat (nat j), .dat (nat (c ^ j))] ↔
      (sizeFor c B - j < n ∧ D.nx [.dat (nat c), .dat (nat B), .dat (nat (sizeFor c B)), .dat (nat (c ^ sizeFor c B))])) := by
  intro n
  induction n with
  | zero => intro j hj; simp [dWl]
  | succ n ih =>
    intro j hj
    rw [dWl]
    by_cases q : j = sizeFor c B
    · generalize dWl _ _ n = W
      have h1 := sizeFor_ge hc B
      rw [← q] at h1 ⊢
      have h2 : ¬ ((c ^ j : Nat) : Int) < B := by omega
      generalize c ^ j = z at *
      have h3 : ¬ z < B := by omega
      simp [h3]
    · have h1 := sizeFor_lt (c := c) (B := B) (k := j) (by omega)
      have ih' := ih (j + 1) (by omega)
      have e1 : (sizeFor c B - j < n + 1) ↔ (sizeFor c B - (j + 1) < n) := by omega
      rw [e1, ← ih']
      generalize dWl _ _ n = W
      have hcm : CM ((c ^ j : Nat) : Int) (c : Int) := CM.small2 (by omega)
      have e2 : nat (c ^ (j + 1)) = .int (((c ^ j : Nat) : Int) * c) := by rw [Nat.pow_succ]; simp [nat]
      have e3 : nat (j + 1) = .int ((j : Int) + 1) := by simp [nat]
      rw [e2, e3]
      generalize c ^ j = z at *
      simp [h1, hcm]
theorem c_size_for {c B : Nat} (hc : 2 ≤ c) (hc6 : c ≤ 6) {Q : PyData → Prop} {E : Value → Prop} : f_size_for [nat c, nat B] Q E ↔ Q (nat (sizeFor c B)) := by
  rw [f_size_for_eq]
  have e := fun n D => size_loop hc hc6 (B := B) (D := D) n 0 (Nat.zero_le _)
  unfold t_size_for
  simp only [dThen, dSet, dC, dWhile]
  simp only [List.set]
  simp only [Nat.pow_zero, Nat.sub_zero] at e
  constructor
  · rintro ⟨n, hn⟩
    have := ((e n _).mp hn).2
    simpa using this
  · intro q
    refine ⟨sizeFor c B + 1, (e _ _).mpr ⟨by omega, ?_⟩⟩
    simpa using q
theorem below_num {m : Mk} (h : m.Ok) {D : DEnds} {x1 x2 x3 x4 x7 : Sl} : ∀ (l : List Nat) (a : Nat) (y : Sl),
    (dFo (dgName 6) (dSet 5 (dOp dAdd (dOp dMul (dVar 5) (dCall f_faces_many (dCons (dVar 0) dNil))) (dVar 6))) (nats l) D [.dat m.enc, x1, x2, x3, x4, .dat (nat a), y, x7] ↔
      D.nx [.dat m.enc, x1, x2, x3, x4, .dat (nat (l.foldl (fun a x => a * m.faces + x) a)), lastSl y (nats l), x7]) := by
  intro l
  induction l with
  | nil => intro a y; simp [dFo, lastSl]
  | cons x l ih =>
    intro a y
    have ih' := ih (a * m.faces + x) (.dat (nat x))
    rw [List.foldl_cons, nats, List.map_cons, lastSl_cons, ← ih', dFo]
    generalize dFo _ _ _ D = W
    have hcm : CM (a : Int) (m.faces : Int) := CM.small2 (by have := h.faces_le; omega)
    simp [c_faces_many, hcm, nat]
theorem below_go {m : Mk} (h : m.Ok) {D : DEnds} {x2 x3 x4 x5 x6 : Sl} : ∀ (ds : List PyData) (s : Nat) (y : Sl), s < m.size →
    (dFo (dgName 7) (dSet 1 (dCall f_step (dCons (dVar 0) (dCons (dVar 1) dNil)))) ds D [.dat m.enc, .dat (nat s), x2, x3, x4, x5, x6, y] ↔
      D.nx [.dat m.enc, .dat (nat (m.go ds.length s)), x2, x3, x4, x5, x6, lastSl y ds]) := by
  intro ds
  induction ds with
  | nil => intro s y hs; simp [dFo, lastSl]; rfl
  | cons d ds ih =>
    intro s y hs
    have ih' := ih (m.step s) (.dat d) (h.step_lt hs)
    rw [List.length_cons, lastSl_cons, dFo]
    show _ ↔ D.nx [_, .dat (nat (m.go ds.length (m.step s))), _, _, _, _, _, _]
    rw [← ih']
    generalize dFo _ _ _ D = W
    simp [c_step h hs]
def belD : Option (Nat × Nat × Nat) → PyData
  | some (x, t, u) => .tuple [nat x, nat t, nat u]
  | none => .none
def belQ (o : Option (Nat × Nat × Nat)) (Q : PyData → Prop) (N : Prop) : Prop := match o with
  | some (x, t, u) => Q (.tuple [nat x, nat t, nat u])
  | none => N
theorem belowx_loop {m : Mk} (h : m.Ok) {B k : Nat} (hk : k ≤ 100000) {D : DEnds} {N : Prop} (hN : ∀ r, D.nx r ↔ N) :
    ∀ (n j s : Nat) (y4 y5 y6 y7 : Sl), s < m.size → j + n ≤ 1000 →
    (dFo (dgName 4) (dThen (dSet 5 (dC (.int 0))) (dThen (dFor (dIt (dCall f_drawn (dCons (dVar 0) (dCons (dVar 1) (dCons (dVar 3) dNil))))) (dgName 6) (dSet 5 (dOp dAdd (dOp dMul (dVar 5) (dCall f_faces_many (dCons (dVar 0) dNil))) (dVar 6))))
      (dThen (dFor (dRng1 (dCons (dVar 3) dNil)) (dgName 7) (dSet 1 (dCall f_step (dCons (dVar 0) (dCons (dVar 1) dNil)))))
      (dIf (dTest (dOp dLt (dVar 5) (dVar 2))) (dRet (dTup (dCons (dVar 5) (dCons (dVar 1) (dCons (dOp dMul (dVar 4) (dVar 3)) dNil))))) dNext))))
      (nats (List.range' (j + 1) n)) D [.dat m.enc, .dat (nat s), .dat (nat B), .dat (nat k), y4, y5, y6, y7] ↔
      belQ (m.belR k B n j s) D.rt N) := by
  intro n
  induction n with
  | zero => intro j s y4 y5 y6 y7 hs hj; simp [dFo, Mk.belR, belQ, hN]
  | succ n ih =>
    intro j s y4 y5 y6 y7 hs hj
    have hb62 : b62 (k : Int) := b62_nat (by omega)
    have hcm : CM ((j + 1 : Nat) : Int) (k : Int) := CM.small2 (by omega)
    rw [List.range'_succ, show nats ((j + 1) :: List.range' (j + 1 + 1) n) = nat (j + 1) :: nats (List.range' (j + 1 + 1) n) from rfl, dFo]
    have e5 : List.foldl (fun a x => a * m.faces + x) 0 (m.draw k s) = m.num k s := rfl
    have ih' := fun y4 y5 y6 y7 => ih (j + 1) (m.go k s) y4 y5 y6 y7 (h.go_lt k hs) (by omega)
    by_cases q : m.num k s < B
    · have e7 : m.belR k B (n + 1) j s = some (m.num k s, m.go k s, (j + 1) * k) := by unfold Mk.belR; rw [if_pos q]
      rw [e7]
      generalize dFo (dgName 4) _ _ D = W
      simp only [dgName, List.set, dThen, dSet, dC, dFor, dIt, dCall, dCons, dVar, dNil, dRng1]
      simp [c_drawn h hs (show k ≤ 16777216 by omega)]
      rw [show PyData.int 0 = nat 0 from rfl, below_num h]
      simp [hb62]
      rw [below_go h _ _ _ hs, e5]
      have e6 : nat ((j + 1) * k) = .int (((j : Int) + 1) * k) := by simp [nat]
      have hcm' : CM ((j : Int) + 1) (k : Int) := CM.small2 (by omega)
      simp [rngD_length, q, line, belQ, e6, hcm']
    · have e7 : m.belR k B (n + 1) j s = m.belR k B n (j + 1) (m.go k s) := by conv => lhs; unfold Mk.belR; rw [if_neg q]
      rw [e7]
      generalize dFo (dgName 4) _ _ D = W at *
      simp only [dgName, List.set, dThen, dSet, dC, dFor, dIt, dCall, dCons, dVar, dNil, dRng1]
      simp [c_drawn h hs (show k ≤ 16777216 by omega)]
      rw [show PyData.int 0 = nat 0 from rfl, below_num h]
      simp [hb62]
      rw [below_go h _ _ _ hs, e5]
      simp [rngD_length, q]
      exact ih' _ _ _ _
theorem c_belowx {m : Mk} (h : m.Ok) {s B : Nat} (hs : s < m.size) (hk : sizeFor m.faces B ≤ 100000) {Q : PyData → Prop} {E : Value → Prop} :
    f_below [m.enc, nat s, nat B] Q E ↔ belQ (m.belO s B) Q (E (xT "NoEnd")) := by
  rw [f_below_eq]
  have loop := fun D N hN => belowx_loop h (B := B) hk (D := D) (N := N) hN 1000 0 s .no .no .no .no hs (by omega)
  simp only [Nat.zero_add] at loop
  have er : rngD 1 1000 = nats (List.range' 1 1000) := by
    rw [rngD, List.range'_eq_map_range, nats, List.map_map]
    apply List.map_congr_left
    intro k _
    simp [nat]
  have b1 : b62 1 := ⟨by decide, by decide⟩
  have b2 : b62 1001 := ⟨by decide, by decide⟩
  unfold t_below
  generalize hB : dThen (dSet 5 (dC (.int 0))) _ = Bd at *
  simp only [dThen, dSet, dCall, dCons, dVar, dNil]
  simp [c_faces_many, c_size_for h.faces_ge h.faces_le, b1, b2, er]
  exact loop _ (E (xT "NoEnd")) (fun r => by simp)
def mixD : Option (List PyData × Nat) → PyData
  | some (l, t) => .tuple [.tuple l, nat t]
  | none => .none
theorem ixN_nat' {n j : Nat} (hj : j < n) : ixN n (j : Int) = some j := by
  unfold ixN
  simp
  omega
theorem sizeFor_le {c : Nat} (hc : 2 ≤ c) (B : Nat) : sizeFor c B ≤ B := by
  apply Nat.le_of_not_lt
  intro h
  have h1 := sizeFor_lt h
  have h2 : B < c ^ B := Nat.lt_of_lt_of_le Nat.lt_two_pow_self (Nat.pow_le_pow_left hc B)
  omega
def mixQ (o : Option (List PyData × Nat)) (R : List PyData → Nat → Prop) (N : Prop) : Prop := match o with
  | some (l, t) => R l t
  | none => N
theorem downD_succ (n : Nat) : downD ((n + 1 : Nat) : Int) (n + 1) = nat (n + 1) :: downD (n : Int) n := by
  unfold downD
  rw [List.range_succ_eq_map, List.map_cons, List.map_map]
  have e1 : ∀ k : Nat, (((n + 1 : Nat) : Int) + ((k + 1 : Nat) : Int) * -1) = (n : Int) + (k : Int) * -1 := fun k => by push_cast; omega
  simp only [Function.comp_def]
  congr 1
  apply List.map_congr_left
  intro k _
  exact congrArg PyData.int (e1 k)
theorem mixedx_loop {m : Mk} (h : m.Ok) {D : DEnds} {x2 : Sl} {R : List PyData → Nat → Prop} (hR : ∀ l t y4 y5 y6, D.nx [.dat m.enc, .dat (nat t), x2, .own l, y4, y5, y6] ↔ R l t) :
    ∀ (n : Nat) (l : List PyData) (s : Nat) (y4 y5 y6 : Sl), s < m.size → (n = 0 ∨ n < l.length) → n ≤ 1000 →
    (dFo (dgName 4) (dThen (dAsg (dCall f_below (dCons (dVar 0) (dCons (dVar 1) (dCons (dOp dAdd (dVar 4) (dC (.int 1))) dNil)))) (dgTup 3 (dgCons (dgName 5) (dgCons (dgName 1) (dgCons (dgName 6) dgNil)))))
      (dAsg (dTup (dCons (dIxQ (dOwn 3) (dVar 5)) (dCons (dIxQ (dOwn 3) (dVar 4)) dNil))) (dgTup 2 (dgCons (dgSub 3 (dVar 4)) (dgCons (dgSub 3 (dVar 5)) dgNil)))))
      (downD (n : Int) n) D [.dat m.enc, .dat (nat s), x2, .own l, y4, y5, y6] ↔ mixQ (m.mixR n l s) R (D.ex (xT "NoEnd"))) := by
  intro n
  induction n with
  | zero =>
    intro l s y4 y5 y6 hs hl hn
    rw [show downD ((0 : Nat) : Int) 0 = [] from rfl, dFo, hR]
    exact Iff.rfl
  | succ n ih =>
    intro l s y4 y5 y6 hs hl hn
    have hlt : n + 1 < l.length := by omega
    have hk : sizeFor m.faces (n + 2) ≤ 100000 := Nat.le_trans (sizeFor_le h.faces_ge _) (by omega)
    rw [downD_succ, dFo]
    have e1 : PyData.int ((n : Int) + 1 + 1) = nat (n + 2) := by simp [nat]; omega
    cases q : m.belO s (n + 2) with
    | none =>
      have e7 : m.mixR (n + 1) l s = none := by conv => lhs; unfold Mk.mixR; rw [q]
      rw [e7]
      generalize dFo (dgName 4) _ _ D = W
      simp [e1, c_belowx h hs hk, q, belQ, mixQ]
    | some p =>
      obtain ⟨x, t, u⟩ := p
      obtain ⟨hx, ht, _⟩ := Mk.belO_some h hs q
      have e7 : m.mixR (n + 1) l s = m.mixR n (swp l (n + 1) x) t := by conv => lhs; unfold Mk.mixR; rw [q]
      have ih' := fun y4 y5 y6 => ih (swp l (n + 1) x) t y4 y5 y6 ht (.inr (by rw [swp_length]; omega)) (by omega)
      obtain ⟨a, ha⟩ : ∃ a, l[n + 1]? = some a := ⟨_, List.getElem?_eq_getElem hlt⟩
      obtain ⟨b, hb⟩ : ∃ b, l[x]? = some b := ⟨_, List.getElem?_eq_getElem (show x < l.length by omega)⟩
      rw [e7]
      rw [swp_eq ha hb] at ih' ⊢
      have a1 : atI l ((n : Int) + 1) = some a := by rw [show ((n : Int) + 1) = ((n + 1 : Nat) : Int) by simp]; exact Fd.atI_nat ha
      have a2 : atI l (x : Int) = some b := Fd.atI_nat hb
      have i1 : ixN l.length ((n : Int) + 1) = some (n + 1) := by rw [show ((n : Int) + 1) = ((n + 1 : Nat) : Int) by simp]; exact ixN_nat' hlt
      have i2 : ixN l.length (x : Int) = some x := ixN_nat' (by omega)
      generalize dFo (dgName 4) _ _ D = W at *
      simp [e1, c_belowx h hs hk, q, belQ, a1, a2, i1, i2, line]
      exact ih' _ _ _
theorem c_mixedx {m : Mk} (h : m.Ok) {s : Nat} (hs : s < m.size) {row : List PyData} (hr : row.length ≤ 100) {Q : PyData → Prop} {E : Value → Prop} :
    f_mixed [m.enc, nat s, .tuple row] Q E ↔ mixQ (m.mixO s row) (fun l t => Q (.tuple [.tuple l, nat t])) (E (xT "NoEnd")) := by
  rw [f_mixed_eq]
  have b1 : b62 ((row.length : Int) - 1) := ⟨by omega, by omega⟩
  have b0 : b62 0 := ⟨by decide, by decide⟩
  have loop := fun D R hR => mixedx_loop h (x2 := .dat (.tuple row)) (D := D) (R := R) hR (row.length - 1) row s .no .no .no hs (by omega) (by omega)
  unfold t_mixed
  generalize hB : dThen (dAsg _ _) _ = Bd at *
  simp only [dThen, dSetO, dSeqL, dSeq, dVar, dFor, dRng3, dCons, dNil, dOp, dCall, dC, dNeg]
  simp [b1, b0]
  by_cases hz : row.length = 0
  · have e : row = [] := List.length_eq_zero_iff.mp hz
    subst e
    simp [downD, dFo, line, Mk.mixO, Mk.mixR, mixQ]
  · have e3 : ((row.length : Int) - 1) = ((row.length - 1 : Nat) : Int) := by omega
    rw [e3]
    exact loop _ (fun l t => Q (.tuple [.tuple l, nat t])) (fun l t y4 y5 y6 => by simp [line])
theorem ordO_D {m : Mk} (few s : Nat) : m.mixO s (nats (List.range few)) = (m.ordO few s).map fun p => (nats p.1, p.2) := Mk.mixO_map _ _ _
theorem mixed_ord {m : Mk} (h : m.Ok) {s : Nat} (hs : s < m.size) {few : Nat} (hf : few ≤ 100) {Q : PyData → Prop} {E : Value → Prop} :
    f_mixed [m.enc, nat s, .tuple (nats (List.range few))] Q E ↔ (match m.ordO few s with | some (l, t) => Q (.tuple [.tuple (nats l), nat t]) | none => E (xT "NoEnd")) := by
  rw [c_mixedx h hs (by simpa [nats] using hf), ordO_D]
  cases m.ordO few s with
  | none => exact Iff.rfl
  | some p => exact Iff.rfl
theorem cntI_val {f : Nat → List Nat} {P : List Nat} {kvs : KVs} (hk : BookOk f P kvs) (r : List Nat) : ∃ i, (valD kvs (rowK r)).getD (.int 0) = .int i ∧ cntI (valD kvs (rowK r)) = i := by
  rw [hk.val]
  by_cases q : cnt P f r = 0
  · exact ⟨0, by simp [q], by simp [q, cntI]⟩
  · exact ⟨(cnt P f r : Nat), by simp [q], by simp [q, cntI]⟩
theorem orders_loop {m : Mk} (h : m.Ok) {few : Nat} (hf : few ≤ 100) {D : DEnds} {R : KVs → Prop} (hR : ∀ kvs y3 y4, D.nx [.dat m.enc, .dat (nat few), .obj (.dN kvs), y3, y4] ↔ R kvs) : ∀ (P P0 : List Nat) (kvs : KVs) (y3 y4 : Sl), BookOk (m.ord few) P0 kvs → P0.length + P.length ≤ 10000 → (∀ x ∈ P, x < m.size) →
    (dFo (dgName 3) (dThen (dSet 4 (dOp dIx (dCall f_mixed (dCons (dVar 0) (dCons (dVar 3) (dCons (dRgT (dRg1 (dVar 1))) dNil)))) (dC (.int 0)))) (dPutN 2 (dOp dAdd (dGetN (dSlN 2) (dVar 4) (dC (.int 0))) (dC (.int 1))) (dVar 4)))
      (nats P) D [.dat m.enc, .dat (nat few), .obj (.dN kvs), y3, y4] ↔ ((∀ x ∈ P, ∃ l t, m.ordO few x = some (l, t)) ∧ R (P.foldl (bookS (m.ord few)) kvs)) ∨ ((∃ x ∈ P, m.ordO few x = none) ∧ D.ex (xT "NoEnd")))
  | [], P0, kvs, y3, y4, _, _, _ => by simp [dFo, hR]
  | x :: P, P0, kvs, y3, y4, hk, hl, hx => by
    have hxs := hx x (List.mem_cons_self ..)
    have hcm := fun (Q3 : PyData → Prop) (E3 : Value → Prop) => mixed_ord h hxs hf (Q := Q3) (E := E3)
    have b1 : RgOk 0 (few : Int) := ⟨by omega, by omega, by omega, by omega, by omega⟩
    have er : rngD 0 few = nats (List.range few) := rngD_nat few
    rw [show nats (x :: P) = nat x :: nats P from rfl, dFo]
    cases q : m.ordO few x with
    | none =>
      simp only [q] at hcm
      have e1 : ¬ ∀ y ∈ x :: P, ∃ l t, m.ordO few y = some (l, t) := fun z => by
        obtain ⟨l, t, e⟩ := z x (List.mem_cons_self ..)
        rw [q] at e
        cases e
      have e2 : ∃ y ∈ x :: P, m.ordO few y = none := ⟨x, List.mem_cons_self .., q⟩
      rw [eq_false e1, eq_true e2]
      generalize dFo _ _ _ D = W
      simp [b1, er, hcm, line]
    | some p =>
      obtain ⟨l, t⟩ := p
      have hol : m.ord few x = l := Mk.ord_of q
      have ih := fun y4 => orders_loop h hf hR (D := D) P (P0 ++ [x]) (bookS (m.ord few) kvs x) (.dat (nat x)) y4 (hk.put x) (by simp at hl ⊢; omega) fun y hy => hx y (List.mem_cons_of_mem _ hy)
      simp only [q] at hcm
      have e1 : (∀ y ∈ x :: P, ∃ l t, m.ordO few y = some (l, t)) ↔ ∀ y ∈ P, ∃ l t, m.ordO few y = some (l, t) := by
        rw [List.forall_mem_cons]
        exact ⟨fun z => z.2, fun z => ⟨⟨l, t, q⟩, z⟩⟩
      have e2 : (∃ y ∈ x :: P, m.ordO few y = none) ↔ ∃ y ∈ P, m.ordO few y = none := by
        constructor
        · rintro ⟨y, hy, e⟩
          rcases List.mem_cons.mp hy with rfl | hy
          · rw [q] at e; cases e
          · exact ⟨y, hy, e⟩
        · rintro ⟨y, hy, e⟩
          exact ⟨y, List.mem_cons_of_mem _ hy, e⟩
      rw [e1, e2, List.foldl_cons, ← ih (.dat (.tuple (nats l)))]
      have hkey := keyD_row l
      have hlen : kvs.length < sizeLine := by rw [line]; have := hk.len; simp at hl; omega
      obtain ⟨i, hv1, hv2⟩ := cntI_val hk l
      unfold bookS
      rw [hol, hv2]
      generalize dFo _ _ _ D = W
      generalize nats l = DD at *
      generalize rowK l = KK at *
      rw [line] at hlen
      simp [b1, er, hcm, hkey, hlen, hv1, line]
theorem ordOk_or {m : Mk} (few : Nat) : m.OrdOk few ∨ ∃ x ∈ List.range m.size, m.ordO few x = none := by
  by_cases q : ∃ x ∈ List.range m.size, m.ordO few x = none
  · exact .inr q
  · refine .inl fun x hx => ?_
    cases e : m.ordO few x with
    | none => exact absurd ⟨x, List.mem_range.mpr hx, e⟩ q
    | some p => exact ⟨p.1, p.2, rfl⟩
theorem c_orders {m : Mk} (h : m.Ok) {few : Nat} (hf1 : 1 ≤ few) (hf : few ≤ 100) {Q : PyData → Prop} {E : Value → Prop} :
    f_orders [m.enc, nat few] Q E ↔ (m.OrdOk few ∧ Q (.tuple (m.ordL few))) ∨ ((∃ x ∈ List.range m.size, m.ordO few x = none) ∧ E (xT "NoEnd")) := by
  rw [f_orders_eq]
  have hz := h.size_le
  have b1 : b62 (m.size : Int) := b62_nat (by omega)
  have er : rngD 0 m.size = nats (List.range m.size) := rngD_nat m.size
  unfold t_orders
  generalize hB : dThen (dSet 4 _) _ = Bd at *
  have loop := fun D R hR => orders_loop h hf (D := D) (R := R) hR (List.range m.size) [] [] .no .no (by have := book_ok (m.ord few) []; exact this) (by simp; omega) (fun x hx => List.mem_range.mp hx)
  rw [hB] at loop
  simp only [dThenP, dSetM, dNewN, dFor, dRng1, dCons, dCall, dVar, dNil]
  simp [c_stands h, b1, er]
  refine (loop _ (fun kvs => dRet (dTupP (dSeq (dAsL (dSortIt (dSlN 2))))) { nx := fun _ => False, rt := Q, ex := E } [.dat m.enc, .dat (nat few), .obj (.dN kvs), .no, .no]) (fun kvs y3 y4 => by simp)).trans ?_
  have e1 : (∀ x ∈ List.range m.size, ∃ l t, m.ordO few x = some (l, t)) ↔ m.OrdOk few := ⟨fun z x hx => z x (List.mem_range.mpr hx), fun z x hx => z x (List.mem_range.mp hx)⟩
  rw [e1]
  refine or_congr (and_congr_right fun ok => ?_) (and_congr_left' (by simp))
  have hs := fun (Q1 : List PyData → Prop) => Mk.items_sort h ok (Q := Q1)
  rw [show (List.range m.size).foldl (bookS (m.ord few)) [] = m.ordB few from rfl]
  simp only [dRet, dTupP, dSeq, dAsL, dSortIt, dSlN]
  simp only [List.getElem?_cons_zero, List.getElem?_cons_succ, Option.some.injEq, Sl.obj.injEq, OD.dN.injEq, exists_eq_left', true_and]
  refine (hs _).trans ?_
  simp
theorem gcd_wl {c : DT} {b : DS} {D : DEnds} {F : Nat → Nat → Ev} (hc : ∀ x y (Q : Bool → Prop), c (F x y) Q D.ex ↔ Q (decide (y ≠ 0))) (hb : ∀ x y (N : Ev → Prop), 0 < y → (b { D with nx := N, ct := N, bk := D.nx } (F x y) ↔ N (F y (x % y)))) : ∀ (x y : Nat), (dWhile c b D (F x y) ↔ D.nx (F (Nat.gcd x y) 0)) := by
  have h1 : ∀ (n x y : Nat), dWl c b n D (F x y) → D.nx (F (Nat.gcd x y) 0) := by
    intro n
    induction n with
    | zero => intro x y h; exact h.elim
    | succ n ih =>
      intro x y h
      rw [dWl, hc] at h
      by_cases q : y = 0
      · subst q
        simpa using h
      · simp only [q, ne_eq, not_false_eq_true, decide_true, if_true] at h
        rw [hb x y _ (by omega)] at h
        have := ih y (x % y) h
        rwa [Nat.gcd_comm x y, Nat.gcd_rec y x, Nat.gcd_comm (x % y) y]
  have h2 : ∀ (k x y : Nat), y ≤ k → D.nx (F (Nat.gcd x y) 0) → ∃ n, dWl c b n D (F x y) := by
    intro k
    induction k with
    | zero =>
      intro x y hy h
      have : y = 0 := by omega
      subst this
      refine ⟨1, ?_⟩
      rw [dWl, hc]
      simpa using h
    | succ k ih =>
      intro x y hy h
      by_cases q : y = 0
      · subst q
        refine ⟨1, ?_⟩
        rw [dWl, hc]
        simpa using h
      · have hlt : x % y < y := Nat.mod_lt _ (by omega)
        obtain ⟨n, hn⟩ := ih y (x % y) (by omega) (by rwa [Nat.gcd_comm x y, Nat.gcd_rec y x, Nat.gcd_comm (x % y) y] at h)
        refine ⟨n + 1, ?_⟩
        rw [dWl, hc]
        simp only [q, ne_eq, not_false_eq_true, decide_true, if_true]
        rw [hb x y _ (by omega)]
        exact hn
  intro x y
  exact ⟨fun ⟨n, h⟩ => h1 n x y h, fun h => h2 y x y (Nat.le_refl _) h⟩
theorem c_divisor {a b : Nat} {Q : PyData → Prop} {E : Value → Prop} : f_divisor [nat a, nat b] Q E ↔ Q (nat (Nat.gcd a b)) := by
  rw [f_divisor_eq]
  unfold t_divisor
  simp only [dThen]
  rw [gcd_wl (F := fun x y => [.dat (nat x), .dat (nat y)]) (fun x y Q => by
    simp
    by_cases q : y = 0 <;> simp [q]) (fun x y N hy => by
    have : 0 < (y : Int) := by omega
    simp [this, hy, nat]) a b]
  simp
theorem frac_div {a b : Nat} (hb : 0 < b) (hw : b < 2 ^ 9000) (i : Int) : CDivW i ((Nat.gcd a b : Nat) : Int) := by
  have hg : 0 < Nat.gcd a b := Nat.gcd_pos_of_pos_right _ hb
  have hl : Nat.gcd a b ≤ b := Nat.gcd_le_right _ hb
  refine wide_div (b := 9000) (by omega) ?_ (by decide) (by decide)
  rw [Int.natAbs_natCast]
  exact Nat.lt_of_le_of_lt hl hw
theorem fr1_int (a b : Nat) : (a : Int) / ((Nat.gcd a b : Nat) : Int) = ((fr1 a b : Nat) : Int) := by rw [fr1]; simp
theorem fr2_int (a b : Nat) : (b : Int) / ((Nat.gcd a b : Nat) : Int) = ((fr2 a b : Nat) : Int) := by rw [fr2]; simp
theorem c_fraction {a b : Nat} (hb : 0 < b) (hw : b < 2 ^ 9000) {Q : PyData → Prop} {E : Value → Prop} : f_fraction [nat a, nat b] Q E ↔ Q (frD a b) := by
  rw [f_fraction_eq]
  have e0 : ¬ ((a : Int) < 0) := by omega
  have h1 := fun i => frac_div (a := a) hb hw i
  have h2 := fr1_int a b
  have h3 := fr2_int a b
  have hd : ∀ (Q : PyData → Prop) (E : Value → Prop), f_divisor [nat a, nat b] Q E ↔ Q (nat (Nat.gcd a b)) := fun Q E => c_divisor
  unfold t_fraction
  simp only [dThen, dSet, dCall, dCons, dVar, dNil, dRet, dTup, dOp]
  generalize Nat.gcd a b = g at *
  simp [e0, hd, h1, h2, h3, frD, line]
theorem c_frac {a b : Nat} (hb : 0 < b) (hw : b < 2 ^ 9000) {Q : PyData → Prop} {E : Value → Prop} : f_xlaw_frac [nat a, nat b] Q E ↔ Q (frD a b) := by
  rw [f_xlaw_frac_eq]
  unfold t_xlaw_frac
  have e0 : ¬ ((a : Int) < 0) := by omega
  have h1 := fun i => frac_div (a := a) hb hw i
  have h2 := fr1_int a b
  have h3 := fr2_int a b
  have hg := fun (D : DEnds) => gcd_wl (c := dTest (dOp dNe (dVar 3) (dC (.int 0)))) (b := dPar 2 3 (dCons (dVar 3) (dCons (dOp dMod (dVar 2) (dVar 3)) dNil))) (D := D) (F := fun x y => [.dat (nat a), .dat (nat b), .dat (nat x), .dat (nat y)]) (fun x y Q => by
    simp
    by_cases q : y = 0 <;> simp [q]) (fun x y N hy => by
    have : 0 < (y : Int) := by omega
    simp [this, hy, nat]) a b
  generalize hW : dWhile _ _ = W at *
  simp only [dThen, dPar, dCall, dCons, dVar, dNil]
  simp [e0]
  rw [hg]
  generalize Nat.gcd a b = g at *
  simp [h1, h2, h3, frD, line]
theorem Sh.eqv {n : Nat} {d : PyData} (h : Sh n d) : PyData.eqv d d = true := SeqAt.eqv_refl d h.lay
theorem ne_self {n : Nat} {d : PyData} (h : Sh n d) (hn : n ≤ 64) {Q : PyData → Prop} {E : Value → Prop} : dNe d d Q E ↔ Q (.bool false) := by
  have h1 := h.ok hn
  have h2 := Sh.eqv h
  simp [h1, h2]
theorem eq_self' {n : Nat} {d : PyData} (h : Sh n d) (hn : n ≤ 64) {Q : PyData → Prop} {E : Value → Prop} : dEq d d Q E ↔ Q (.bool true) := by
  have h1 := h.ok hn
  have h2 := Sh.eqv h
  simp [h1, h2]
def fact4 : Nat → Nat
  | 1 => 1
  | 2 => 2
  | 3 => 6
  | 4 => 24
  | _ => 1
theorem c_expected {few : Nat} (h1 : 1 ≤ few) (h4 : few ≤ 4) {Q : PyData → Prop} {E : Value → Prop} : f_expected [nat few] Q E ↔ Q (.tuple [.int 1, nat (fact4 few)]) := by
  rw [f_expected_eq]
  have hfr := fun (b : Nat) (hb : 0 < b) (hb2 : b < 100) (Q : PyData → Prop) (E : Value → Prop) => c_fraction (a := 1) (b := b) hb (Nat.lt_of_lt_of_le (show b < 2 ^ 7 by omega) (Nat.pow_le_pow_right (by decide) (by decide))) (Q := Q) (E := E)
  have e1 : ∀ b : Nat, frD 1 b = .tuple [.int 1, nat b] := fun b => by simp [frD, fr1, fr2, nat]
  simp only [e1] at hfr
  have b2 : b62 2 := ⟨by decide, by decide⟩
  have b3 : b62 3 := ⟨by decide, by decide⟩
  have b4 : b62 4 := ⟨by decide, by decide⟩
  have b5 : b62 5 := ⟨by decide, by decide⟩
  have h24 := hfr 24 (by decide) (by decide)
  have h6 := hfr 6 (by decide) (by decide)
  have h2 := hfr 2 (by decide) (by decide)
  have h1' := hfr 1 (by decide) (by decide)
  have h24 : ∀ (Q : PyData → Prop) (E : Value → Prop), f_fraction [.int 1, .int 24] Q E ↔ Q (.tuple [.int 1, .int 24]) := h24
  have h6 : ∀ (Q : PyData → Prop) (E : Value → Prop), f_fraction [.int 1, .int 6] Q E ↔ Q (.tuple [.int 1, .int 6]) := h6
  have h2 : ∀ (Q : PyData → Prop) (E : Value → Prop), f_fraction [.int 1, .int 2] Q E ↔ Q (.tuple [.int 1, .int 2]) := h2
  have h1' : ∀ (Q : PyData → Prop) (E : Value → Prop), f_fraction [.int 1, .int 1] Q E ↔ Q (.tuple [.int 1, .int 1]) := h1'
  have c1 : CM 1 2 := CM.small2 (by decide)
  have c2 : CM 2 3 := CM.small2 (by decide)
  have c3 : CM 6 4 := CM.small2 (by decide)
  unfold t_expected
  have : few = 1 ∨ few = 2 ∨ few = 3 ∨ few = 4 := by omega
  rcases this with rfl | rfl | rfl | rfl
  · simp [nat, b2, rngD, dFo, h1', fact4]
  · have r1 : rngD 2 1 = [.int 2] := rfl
    simp [nat, b2, b3, r1, dFo, h2, fact4, c1]
  · have r1 : rngD 2 2 = [.int 2, .int 3] := rfl
    simp [nat, b2, b4, r1, dFo, h6, fact4, c1, c2]
  · have r1 : rngD 2 3 = [.int 2, .int 3, .int 4] := rfl
    simp [nat, b2, b5, r1, dFo, h24, fact4, c1, c2, c3]
theorem told_NoEnd {Q : PyData → Prop} : (∃ n d, (n, d) ∈ dcls3 ∧ xT "NoEnd" = xT n ∧ Q (.tuple [.str "refused", d])) ↔ Q (.tuple [.str "refused", .int 0]) := by
  constructor
  · rintro ⟨n, d, h, e, q⟩
    have en : n = "NoEnd" := by
      unfold xT at e
      injection e with e
      exact e.symm
    subst en
    simp only [dcls3, List.mem_cons, Prod.mk.injEq, List.mem_nil_iff, or_false] at h
    rcases h with ⟨_, rfl⟩ | ⟨z, _⟩ | ⟨z, _⟩
    · exact q
    · exact absurd z (by decide +kernel)
    · exact absurd z (by decide +kernel)
  · intro q
    exact ⟨"NoEnd", .int 0, by simp [dcls3], rfl, q⟩
theorem sh_told : Sh 0 (.str "told") := sh_str (by decide +kernel)
theorem sh_refused : Sh 0 (.str "refused") := sh_str (by decide +kernel)
def refD : PyData := .tuple [.str "refused", .int 0]
theorem sh_two {n : Nat} {a b : PyData} (ha : Sh n a) (hb : Sh n b) : Sh (n + 1) (.tuple [a, b]) := sh_tuple fun d hd => by
  rcases List.mem_cons.mp hd with rfl | hd
  · exact ha
  · have : d = b := by simpa using hd
    subst this
    exact hb
theorem sh_refD : Sh 1 refD := sh_two sh_refused (sh_int _)
def toldB (o : Option (Nat × Nat × Nat)) : PyData := match o with
  | some p => .tuple [.str "told", belD (some p)]
  | none => refD
theorem sh_toldB (o : Option (Nat × Nat × Nat)) : Sh 2 (toldB o) := by
  cases o with
  | none => exact sh_refD.mono (by decide)
  | some p => exact sh_two (sh_told.mono (by decide)) (sh_tuple (sh_nats [_, _, _]))
theorem belT {o : Option (Nat × Nat × Nat)} {Q : PyData → Prop} : belQ o (fun d => Q (.tuple [.str "told", d])) (∃ n d, (n, d) ∈ dcls3 ∧ xT "NoEnd" = xT n ∧ Q (.tuple [.str "refused", d])) ↔ Q (toldB o) := by
  cases o with
  | none => exact told_NoEnd
  | some p => exact Iff.rfl
def toldM (o : Option (List PyData × Nat)) : PyData := match o with
  | some p => .tuple [.str "told", mixD (some p)]
  | none => refD
theorem mixT {o : Option (List PyData × Nat)} {Q : PyData → Prop} : mixQ o (fun l t => Q (.tuple [.str "told", .tuple [.tuple l, nat t]])) (∃ n d, (n, d) ∈ dcls3 ∧ xT "NoEnd" = xT n ∧ Q (.tuple [.str "refused", d])) ↔ Q (toldM o) := by
  cases o with
  | none => exact told_NoEnd
  | some p => exact Iff.rfl
theorem sh_toldM {o : Option (List PyData × Nat)} {n : Nat} (h : ∀ l t, o = some (l, t) → ∀ d ∈ l, Sh n d) : Sh (n + 3) (toldM o) := by
  cases o with
  | none => exact sh_refD.mono (by omega)
  | some p => exact sh_two (sh_told.mono (by omega)) (sh_two (sh_tuple (h _ _ rfl)) ((sh_int _).mono (by omega)))
theorem ord_sum {m : Mk} (h : m.Ok) {few : Nat} (ok : m.OrdOk few) : ((m.ordR few).map (m.ordC few)).sum = m.size := by
  have := sum_cnt (List.range m.size) (m.ord few) (Mk.ordR_nodup m few)
  show ((m.ordR few).map (cnt (List.range m.size) (m.ord few))).sum = m.size
  rw [this]
  refine Eq.trans (congrArg List.length (a₂ := List.range m.size) ?_) List.length_range
  rw [List.filter_eq_self]
  intro x hx
  have q := (Mk.mem_ordR h ok).mpr ⟨x, hx, rfl⟩
  simp [q]
theorem ord_few {m : Mk} (h : m.Ok) {few : Nat} (ok : m.OrdOk few) (h1 : 1 ≤ few) (h4 : few ≤ 4) : (m.ordR few).length ≤ fact4 few := by
  have key : (m.ordR few).length ≤ ((rowsN few few).filter fun r => r.isPerm (List.range few)).length := by
    refine nodup_sub_len (Mk.ordR_nodup m few) fun r hr => ?_
    obtain ⟨x, hx, rfl⟩ := (Mk.mem_ordR h ok).mp hr
    have := Mk.ord_row h ok (List.mem_range.mp hx)
    exact List.mem_filter.mpr ⟨this.2, List.isPerm_iff.mpr this.1⟩
  refine Nat.le_trans key ?_
  have : few = 1 ∨ few = 2 ∨ few = 3 ∨ few = 4 := by omega
  rcases this with rfl | rfl | rfl | rfl <;> decide +kernel
theorem ord_nodup {l : List Nat} {n : Nat} (h : l.Perm (List.range n)) : l.Nodup := h.nodup_iff.mpr List.nodup_range
open PySem.W in
theorem sort_perm {l : List Nat} {n : Nat} (h : l.Perm (List.range n)) (hn : n ≤ 1000) {Q : List PyData → Prop} :
    (AllAlike (nats l) ∧ Sortable (nats l) ∧ (nats l).length ≤ sizeLine ∧ (∀ d ∈ nats l, d.depth ≤ 60) ∧ ∀ out : List PyData, out.Perm (nats l) → out.Pairwise (fun a b => dataLt b a = false) → Q out) ↔ Q (nats (List.range n)) :=
  sortd_nats (ord_nodup h) List.pairwise_lt_range (fun x => h.mem_iff) (by rw [h.length_eq, List.length_range]; omega)
theorem lc_pair2 {A : Type} {i j : Nat} {te : DE} {r : Ev} {Q : List PyData → Prop} (a b f : A → PyData) : ∀ {l : List A} (acc : List PyData), (∀ x ∈ l, ∀ Q1 : PyData → Prop, te ((r.set i (.dat (a x))).set j (.dat (b x))) Q1 (fun _ => False) ↔ Q1 (f x)) →
    (dLcGo (dgTup 2 (dgCons (dgName i) (dgCons (dgName j) dgNil))) dYes te r Q (l.map fun x => .tuple [a x, b x]) acc ↔ Q (acc ++ l.map f))
  | [], acc, _ => by simp [dLcGo]
  | x :: l, acc, h => by
    have ih := lc_pair2 (Q := Q) a b f (l := l) (acc ++ [f x]) fun y hy => h y (List.mem_cons_of_mem _ hy)
    have hx := h x (List.mem_cons_self ..)
    rw [List.map_cons, dLcGo, List.map_cons, show acc ++ f x :: l.map f = (acc ++ [f x]) ++ l.map f by simp, ← ih]
    generalize hW : dLcGo _ _ _ r Q (l.map _) = W
    simp only [dgTup, dgCons, dgName, dgNil, dYes]
    constructor
    · rintro ⟨ds, e, _, d, rest, e2, d2, rest2, e3, e4, q⟩
      cases e
      cases e2
      cases e3
      rw [if_pos trivial, hx] at q
      exact q
    · intro q
      refine ⟨_, rfl, rfl, _, _, rfl, _, _, rfl, rfl, ?_⟩
      rw [if_pos trivial, hx]
      exact q
end Dm
end
section
set_option Elab.async false
set_option linter.all false
set_option maxRecDepth 100000
set_option autoImplicit false
set_option maxHeartbeats 4000000
namespace Dm
open PySem L2 Fd
theorem putAll_app : ∀ {ps kvs : KVs}, ((kvs ++ ps).map (·.1)).Nodup → putAll kvs ps = kvs ++ ps
  | [], kvs, _ => by simp [putAll]
  | p :: ps, kvs, h => by
    have hn : ¬ hasK kvs p.1 = true := fun z => by
      rw [List.map_append, List.map_cons] at h
      have h3 := (List.nodup_append.mp h).2.2
      have : p.1 ∈ kvs.map (·.1) := (hasK_mem kvs p.1).mp z
      exact h3 _ this _ (List.mem_cons_self ..) rfl
    show putAll (putD kvs p.1 p.2) ps = _
    have e : putD kvs p.1 p.2 = kvs ++ [p] := by
      unfold putD
      rw [if_neg hn]
    rw [e, putAll_app (by simpa using h)]
    simp
/-- the orders as a book -/
noncomputable def Mk.ordK (m : Mk) (few : Nat) : KVs := (m.ordR few).map fun r => (rowK r, nat (m.ordC few r))
theorem ordK_prD {m : Mk} {few : Nat} : (m.ordK few).map Fd.prD = m.ordL few := by
  unfold Mk.ordK Mk.ordL
  rw [List.map_map]
  exact List.map_congr_left fun r _ => by simp [Fd.prD, Mk.ordP, rowK_data]
theorem ordK_keys {m : Mk} {few : Nat} : (m.ordK few).map (fun p => p.1.data) = (m.ordR few).map fun r => PyData.tuple (nats r) := by
  unfold Mk.ordK
  rw [List.map_map]
  exact List.map_congr_left fun r _ => rowK_data r
theorem ordK_nodup (m : Mk) (few : Nat) : ((m.ordK few).map (·.1)).Nodup := by
  have e : (m.ordK few).map (·.1) = (m.ordR few).map rowK := by
    unfold Mk.ordK
    rw [List.map_map]
    rfl
  rw [e]
  exact rowsK_nodup (Mk.ordR_nodup m few)
theorem ordK_all (m : Mk) (few : Nat) : putAll [] (m.ordK few) = m.ordK few := by
  have := putAll_app (ps := m.ordK few) (kvs := []) (by simpa using ordK_nodup m few)
  simpa using this
theorem sort_ordL {m : Mk} (h : m.Ok) {few : Nat} (ok : m.OrdOk few) {Q : List PyData → Prop} :
    (PySem.W.AllAlike (m.ordL few) ∧ PySem.W.Sortable (m.ordL few) ∧ (m.ordL few).length ≤ sizeLine ∧ (∀ d ∈ m.ordL few, d.depth ≤ 60) ∧ ∀ out : List PyData, out.Perm (m.ordL few) → out.Pairwise (fun a b => PySem.W.dataLt b a = false) → Q out) ↔ Q (m.ordL few) := by
  refine sortd_iff (List.Perm.refl _) ?_ (fun d hd d' hd' => ?_) (.inl fun d hd => ?_) ?_ (fun d hd => ?_)
  · unfold Mk.ordL
    rw [List.pairwise_map]
    exact (Mk.ordR_rise m few).imp fun {a b} h => pr_lt h
  · obtain ⟨a, _, rfl⟩ := List.mem_map.mp hd
    obtain ⟨b, _, rfl⟩ := List.mem_map.mp hd'
    exact pr_alike a b _ _
  · obtain ⟨a, _, rfl⟩ := List.mem_map.mp hd
    exact ⟨_, _, rfl⟩
  · have := Mk.ordR_len h ok
    have hz := h.size_le
    rw [line, Mk.ordL, List.length_map]
    omega
  · obtain ⟨a, _, rfl⟩ := List.mem_map.mp hd
    exact Nat.le_trans (pr_sh a _).dep (by decide)
theorem sh_ordL {m : Mk} {few : Nat} : ∀ d ∈ m.ordL few, Sh 2 d := fun d hd => by
  obtain ⟨a, _, rfl⟩ := List.mem_map.mp hd
  exact pr_sh a _
theorem ord_one {m : Mk} (h : m.Ok) : m.ordL 1 = [.tuple [.tuple [.int 0], nat m.size]] := by
  have e0 : ∀ x, m.ordO 1 x = some ([0], x) := fun x => rfl
  have e1 : ∀ x, m.ord 1 x = [0] := fun x => Mk.ord_of (e0 x)
  have ec : m.ordC 1 [0] = m.size := by
    unfold Mk.ordC cnt
    refine Eq.trans (congrArg List.length (a₂ := List.range m.size) ?_) List.length_range
    rw [List.filter_eq_self]
    intro x _
    simp [e1 x]
  have hp := h.size_pos
  have er : m.ordR 1 = [[0]] := by
    unfold Mk.ordR
    have : rowsN 1 1 = [[0]] := by decide +kernel
    rw [this]
    have hp' : 0 < m.size := hp
    simp [ec, hp']
  unfold Mk.ordL
  rw [er]
  simp [Mk.ordP, ec, nats, nat]
theorem seen_loop {m : Mk} (h : m.Ok) {few : Nat} (hf : few ≤ 100) (ok : m.OrdOk few) {D : DEnds} {x0 x2 x4 x5 x6 x7 x11 x12 : Sl} : ∀ (P P0 : List Nat) (kvs : KVs) (y9 y10 : Sl), BookOk (m.ord few) P0 kvs → P0.length + P.length ≤ 10000 → (∀ x ∈ P, x < m.size) →
    (∀ y9 y10, D.nx [x0, .dat m.enc, x2, .dat (nat few), x4, x5, x6, x7, .obj (.dN (P.foldl (bookS (m.ord few)) kvs)), y9, y10, x11, x12]) →
    dFo (dgName 9) (dThen (dSet 10 (dOp dIx (dCallN f_mixed (dCons (dVar 1) (dCons (dVar 9) (dCons (dRgT (dRg1 (dVar 3))) dNil)))) (dC (.int 0)))) (dPutN 8 (dOp dAdd (dGetN (dSlN 8) (dVar 10) (dC (.int 0))) (dC (.int 1))) (dVar 10)))
      (nats P) D [x0, .dat m.enc, x2, .dat (nat few), x4, x5, x6, x7, .obj (.dN kvs), y9, y10, x11, x12]
  | [], P0, kvs, y9, y10, _, _, _, hN => by simpa [dFo] using hN y9 y10
  | x :: P, P0, kvs, y9, y10, hk, hl, hx, hN => by
    have hxs := hx x (List.mem_cons_self ..)
    have hcm := fun (Q3 : PyData → Prop) (E3 : Value → Prop) => mixed_ord h hxs hf (Q := Q3) (E := E3)
    have b1 : RgOk 0 (few : Int) := ⟨by omega, by omega, by omega, by omega, by omega⟩
    have er : rngD 0 few = nats (List.range few) := rngD_nat few
    rw [show nats (x :: P) = nat x :: nats P from rfl, dFo]
    obtain ⟨l, t, q⟩ := ok x hxs
    have hol : m.ord few x = l := Mk.ord_of q
    have ih := fun y10 => seen_loop h hf ok (D := D) (x0 := x0) (x2 := x2) (x4 := x4) (x5 := x5) (x6 := x6) (x7 := x7) (x11 := x11) (x12 := x12) P (P0 ++ [x]) (bookS (m.ord few) kvs x) (.dat (nat x)) y10 (hk.put x) (by simp at hl ⊢; omega) (fun y hy => hx y (List.mem_cons_of_mem _ hy)) hN
    simp only [q] at hcm
    have ih' := ih (.dat (.tuple (nats l)))
    have hkey := keyD_row l
    have hlen : kvs.length < sizeLine := by rw [line]; have := hk.len; simp at hl; omega
    obtain ⟨i, hv1, hv2⟩ := cntI_val hk l
    unfold bookS at ih'
    rw [hol, hv2] at ih'
    generalize dFo _ _ _ D = W at *
    generalize nats l = DD at *
    generalize rowK l = KK at *
    rw [line] at hlen
    simp [b1, er, hcm, hkey, hlen, hv1, line]
    exact ih'
theorem law_true (ns : List Int) (hl : ns.length ≤ 63) (hb : ∀ z ∈ ns, Builtin.Int.intBits z ≤ 1048576) : f_law [.list (ns.map .int)] (fun d => d = .bool true) (fun _ => False) := by
  rw [f_law_eq]
  generalize hD : ({ nx := _, rt := _, ex := _ } : DEnds) = D
  have hrt : D.rt (.bool true) := by rw [← hD]
  clear hD
  unfold t_law
  generalize hR : dThen (dSet 2 _) _ = R
  have m0 : ∀ {Q : PyData → Prop} {E : Value → Prop}, f_xlaw_mixed [.list (ns.map .int), .int 0] Q E ↔ Q (nat (mixed ns 0)) := c_mixed (k := 0)
  have m1 : ∀ {Q : PyData → Prop} {E : Value → Prop}, f_xlaw_mixed [.list (ns.map .int), .int 1] Q E ↔ Q (nat (mixed ns 1)) := c_mixed (k := 1)
  simp [m0]
  refine c_lmaker (most := 20) (by decide) (by decide) fun m hm _ => ?_
  subst hR
  generalize hNS : PyData.list (ns.map .int) = NS at *
  have hsz := hm.size_le
  have hszp : 0 < m.size := hm.size_pos
  generalize hNB : mixed ns 1 = nb at *
  obtain ⟨few, ef, hf1, hf4⟩ : ∃ k : Nat, 1 + (nb : Int) % 4 = (k : Int) ∧ 1 ≤ k ∧ k ≤ 4 := ⟨1 + nb % 4, by omega, by omega, by omega⟩
  have hat : atI [PyData.int 1, .int 1, .int 2, .int 6, .int 24] (few : Int) = some (nat (fact4 few)) := by
    have : few = 1 ∨ few = 2 ∨ few = 3 ∨ few = 4 := by omega
    rcases this with rfl | rfl | rfl | rfl <;> rfl
  have hfp : 0 < fact4 few := by
    have : few = 1 ∨ few = 2 ∨ few = 3 ∨ few = 4 := by omega
    rcases this with rfl | rfl | rfl | rfl <;> decide
  have hfl : fact4 few ≤ 24 := by
    have : few = 1 ∨ few = 2 ∨ few = 3 ∨ few = 4 := by omega
    rcases this with rfl | rfl | rfl | rfl <;> decide
  generalize hR : dThen (dSetTP 5 _ _) _ = R
  have rest : R D [.dat NS, .dat m.enc, .dat (nat nb), .dat (nat few), .dat (nat (fact4 few)), .no, .no, .no, .no, .no, .no, .no, .no] := by
    subst hR
    generalize hT : dThen (dItemP 6 5) _ = T1
    have sr1 : SeqAt.shaped (.str "refused") = true := sh_refused.ok (by decide)
    have st1 : SeqAt.shaped (.str "told") = true := sh_told.ok (by decide)
    have esr : PyData.eqv (.str "refused") (.str "refused") = true := Sh.eqv sh_refused
    have ets : PyData.eqv (.str "told") (.str "refused") = false := by decide +kernel
    have sR := sh_refD.ok (by decide)
    have eR := Sh.eqv sh_refD
    unfold refD at sR eR
    have cord := fun (Q : PyData → Prop) (E : Value → Prop) => (c_orders hm hf1 (by omega) (few := few) (Q := Q) (E := E)).mpr
    rcases ordOk_or (m := m) few with ok | no
    · have t1 : T1 D [.dat NS, .dat m.enc, .dat (nat nb), .dat (nat few), .dat (nat (fact4 few)), .fct (.plt [.str "told", .tuple (m.ordL few)]), .no, .no, .no, .no, .no, .no, .no] := by
        subst hT
        generalize hT2 : dThen (dSetDct 7 _) _ = T2
        have t2 : T2 D [.dat NS, .dat m.enc, .dat (nat nb), .dat (nat few), .dat (nat (fact4 few)), .fct (.plt [.str "told", .tuple (m.ordL few)]), .fct (.pl (.tuple (m.ordL few))), .no, .no, .no, .no, .no, .no] := by
          subst hT2
          generalize hT3 : dThen (dSetM 8 _) _ = T3
          have t3 : T3 D [.dat NS, .dat m.enc, .dat (nat nb), .dat (nat few), .dat (nat (fact4 few)), .fct (.plt [.str "told", .tuple (m.ordL few)]), .fct (.pl (.tuple (m.ordL few))), .fct (.dct (m.ordK few)), .no, .no, .no, .no, .no] := by
            subst hT3
            have b1 : b62 (m.size : Int) := b62_nat (by omega)
            have er : rngD 0 m.size = nats (List.range m.size) := rngD_nat m.size
            generalize hRt : dRet (dAndV _ _) = Rt
            have fin : ∀ y9 y10, Rt D [.dat NS, .dat m.enc, .dat (nat nb), .dat (nat few), .dat (nat (fact4 few)), .fct (.plt [.str "told", .tuple (m.ordL few)]), .fct (.pl (.tuple (m.ordL few))), .fct (.dct (m.ordK few)), .obj (.dN (m.ordB few)), y9, y10, .no, .no] := by
              intro y9 y10
              subst hRt
              obtain ⟨K, pm, eB⟩ := Mk.ordB_items hm ok
              have hlK : (m.ordB few).length = (m.ordK few).length := by
                rw [eB, List.length_map, ← pm.length_eq]
                exact (List.length_map _).symm
              have hin : ∀ x ∈ m.ordB few, ∃ n : Int, x.2 = .int n ∧ x ∈ m.ordK few := fun x hx => by
                rw [eB] at hx
                obtain ⟨r, hr, rfl⟩ := List.mem_map.mp hx
                exact ⟨_, rfl, List.mem_map.mpr ⟨r, pm.mem_iff.mpr hr, rfl⟩⟩
              simp only [dRet, dAndV, dEqD]
              refine ⟨m.ordB few, m.ordK few, rfl, rfl, hlK, hin, true, rfl, ?_⟩
              rw [if_pos rfl]
              by_cases h1 : 1 < few
              · have h1' : (1 : Int) < (few : Int) := by omega
                simp [h1]
                exact .inr ⟨h1', hrt⟩
              · obtain rfl : few = 1 := by omega
                have eo := ord_one hm
                have shO : Sh 3 (.tuple (m.ordL 1)) := sh_tuple sh_ordL
                have s1 := shO.ok (by decide)
                have e1 := Sh.eqv shO
                rw [eo] at s1 e1
                have cs := fun (Q : PyData → Prop) (E : Value → Prop) => c_stands hm (Q := Q) (E := E)
                simp only [dOrV, dOp, dVar, dC, dVarP, dTup, dCons, dNil, dCall]
                simp [eo, cs, line, s1, e1, nat]
                exact hrt
            simp only [dThen, dSetM, dNewN, dFor, dRng1, dCons, dCall, dVar, dNil]
            simp [c_stands hm, b1, er]
            refine seen_loop hm (by omega) ok (List.range m.size) [] [] _ _ (by have := book_ok (m.ord few) []; exact this) (by simp; omega) (fun x hx => List.mem_range.mp hx) ?_
            exact fin
          have gd : ∀ p ∈ m.ordK few, goodK p.1 = true := fun p hp => by
            obtain ⟨r, _, rfl⟩ := List.mem_map.mp hp
            exact rowK_good r
          have hRl := Mk.ordR_len hm ok
          have hlK : (m.ordK few).length = (m.ordR few).length := List.length_map _
          have hlL : (m.ordL few).length = (m.ordR few).length := List.length_map _
          have hKl : (m.ordK few).length ≤ sizeLine := by rw [line, hlK]; omega
          have hrg : RgOk 0 (few : Int) := ⟨by omega, by omega, by omega, by omega, by omega⟩
          have er : rngD 0 few = nats (List.range few) := rngD_nat few
          have shr : SeqAt.shaped (.list (nats (List.range few))) = true := (sh_list (sh_nats _)).ok (by decide)
          have sh0 : SeqAt.shaped (.list []) = true := shaped_natsL []
          have hKr : (m.ordR few).length ≤ sizeLine := by rw [line]; omega
          have hlc := fun (Q1 : List PyData → Prop) => lc_filter (i := 11) (tt := dTest (dOp dNe (dAsL (dSortD (dSeq (dVar 11)))) (dAsL (dRgL (dRg1 (dVar 3)))))) (te := dVar 11) (r := wipeD [.dat NS, .dat m.enc, .dat (nat nb), .dat (nat few), .dat (nat (fact4 few)), .fct (.plt [.str "told", .tuple (m.ordL few)]), .fct (.pl (.tuple (m.ordL few))), .fct (.dct (m.ordK few)), .no, .no, .no, .no, .no] [11]) (Q := Q1) (fun _ => false) id (ds := (m.ordR few).map fun r => PyData.tuple (nats r)) (fun d hd Q2 => by
            obtain ⟨r, hr, rfl⟩ := List.mem_map.mp hd
            obtain ⟨x, hx, e⟩ := (Mk.mem_ordR hm ok).mp hr
            have hp := (Mk.ord_row hm ok (List.mem_range.mp hx)).1
            rw [e] at hp
            have hsp := fun (Q1 : List PyData → Prop) => sort_perm hp (by omega) (Q := Q1)
            simp only [dTest, dOp, dAsL, dSortD, dSeq, dRgL, dRg1, dVar, wipeD]
            simp only [List.set, List.getElem?_cons_zero, List.getElem?_cons_succ, Option.some.injEq, Sl.dat.injEq, exists_eq_left', dSq_1, dSq_2]
            refine (hsp _).trans ?_
            simp [hrg, er, shr, eqvAll_nats]) (fun d hd z => by cases z)
          have ef : (((m.ordR few).map fun r => PyData.tuple (nats r)).filter fun _ => false) = [] := by simp
          rw [ef] at hlc
          simp only [dThen, dSetDct, dDictT, dVarP, dIf, dOr, dTest, dOp, dLenD, dCall, dCons, dNil, dAsL, dLc, dKeysD, dLst]
          simp only [List.set, List.getElem?_cons_zero, List.getElem?_cons_succ, Option.some.injEq, Sl.fct.injEq, Ft.pl.injEq, exists_eq_left']
          refine ⟨m.ordK few, by rw [ordK_prD], gd, hKl, m.ordK few, by rw [ordK_all], ?_⟩
          simp [hlK, hlL, ordK_keys, hKr]
          refine (hlc _).mpr ⟨by simpa using sh0, sh0, .inl ⟨by simp, t3⟩⟩
        have hsum := ord_sum hm ok
        have hlen := ord_few hm ok hf1 hf4
        have hlL : (m.ordL few).length = (m.ordR few).length := List.length_map _
        have hRl := Mk.ordR_len hm ok
        have hlc := fun (r : Ev) (hr : ∀ d e : Sl, ((r.set 10 d).set 12 e)[12]? = some e) (Q1 : List PyData → Prop) => lc_pair2 (i := 10) (j := 12) (te := dVar 12) (r := r) (Q := Q1) (fun r => .tuple (nats r)) (fun r => nat (m.ordC few r)) (fun r => nat (m.ordC few r)) (l := m.ordR few) [] (fun r' hr' Q2 => by simp [hr])
        have eL : (m.ordR few).map (fun r => PyData.tuple [.tuple (nats r), nat (m.ordC few r)]) = m.ordL few := rfl
        have e2 : (m.ordR few).map (fun r => nat (m.ordC few r)) = ((m.ordR few).map fun r => (m.ordC few r : Int)).map PyData.int := by simp [nat]
        have e3 : ((m.ordR few).map fun r => (m.ordC few r : Int)).sum = (m.size : Int) := by
          rw [← hsum]
          induction m.ordR few with
          | nil => rfl
          | cons a l ih => simp [ih]
        rw [eL, e2] at hlc
        have hsL := fun (Q1 : List PyData → Prop) => sort_ordL hm ok (Q := Q1)
        have hll : (m.ordL few).length ≤ sizeLine := by rw [line, hlL]; omega
        have shL : Sh 3 (.list (m.ordL few)) := sh_list sh_ordL
        have s1 := shL.ok (by decide)
        have e1 := Sh.eqv shL
        have hgt' : ¬ ((fact4 few : Int) < ((m.ordL few).length : Int)) := by rw [hlL]; omega
        have hgt2 : ¬ (fact4 few < (m.ordL few).length) := by rw [hlL]; omega
        simp only [dThen, dItemP, dIf, dOr, dTest, dOp, dAsL, dSeqL, dSeq, dSortD, dVarP, dLc, dIt, dCallQ, dCall, dCons, dNil, dVar]
        refine ⟨_, _, rfl, ?_⟩
        simp [hll]
        have hsL' := fun (Q1 : List PyData → Prop) => hsL Q1
        simp only [hll, true_and] at hsL'
        refine (hsL' _).mpr ⟨s1, s1, ?_⟩
        rw [eqv_ll] at e1
        simp [e1]
        refine (hlc _ (fun d e => by simp [wipeD]) _).mpr ⟨_, rfl, (c_stands hm).mpr ?_⟩
        rw [e3]
        simp [hgt2]
        exact ⟨by rw [hlL]; exact hlen, t2⟩
      simp only [dThen, dSetTP, dCall, dCons, dVar, dNil]
      simp
      refine cord _ _ (.inl ⟨ok, ?_⟩)
      simp [sr1, st1, ets]
      exact t1
    · simp only [dThen, dSetTP, dCall, dCons, dVar, dNil]
      simp
      refine cord _ _ (.inr ⟨no, "NoEnd", .int 0, by simp, rfl, ?_⟩)
      simp [line, sr1, esr, sR, eR]
      exact hrt
  have cex := fun (Q : PyData → Prop) (E : Value → Prop) => c_expected hf1 hf4 (Q := Q) (E := E)
  have cfr := fun (Q : PyData → Prop) (E : Value → Prop) => c_frac (a := 1) (b := fact4 few) hfp (Nat.lt_of_lt_of_le (show fact4 few < 2 ^ 7 by omega) (Nat.pow_le_pow_right (by decide) (by decide))) (Q := Q) (E := E)
  have e1 : frD 1 (fact4 few) = .tuple [.int 1, nat (fact4 few)] := by simp [frD, fr1, fr2, nat]
  rw [e1] at cfr
  have cfr' : ∀ (Q : PyData → Prop) (E : Value → Prop), f_xlaw_frac [.int 1, nat (fact4 few)] Q E ↔ Q (.tuple [.int 1, nat (fact4 few)]) := cfr
  have shF : Sh 1 (.tuple [.int 1, nat (fact4 few)]) := sh_two (sh_int _) (sh_int _)
  have s1 := shF.ok (by decide)
  have e2 := Sh.eqv shF
  simp only [dThen, dSet, dIf, dTest, dOp, dCall, dCons, dVar, dNil, dC, dTup]
  simp [m1, ef, line, hat, cex, cfr', s1, e2]
  exact rest
end Dm
end
section
set_option Elab.async false
set_option linter.all false
set_option maxRecDepth 100000
set_option autoImplicit false
set_option maxHeartbeats 4000000
namespace Dm
open PySem PySem.Spec PyProof.Rows L2 LamX Fd
theorem bt_ValueError : bootBuiltins "ValueError" = some (.type "ValueError") := by decide +kernel
theorem bt_abs : bootBuiltins "abs" = some (.builtin "abs") := by decide +kernel
theorem bt_dict : bootBuiltins "dict" = some (.type "dict") := by decide +kernel
theorem bt_int : bootBuiltins "int" = some (.type "int") := by decide +kernel
theorem bt_isinstance : bootBuiltins "isinstance" = some (.builtin "isinstance") := by decide +kernel
theorem bt_len : bootBuiltins "len" = some (.builtin "len") := by decide +kernel
theorem bt_list : bootBuiltins "list" = some (.type "list") := by decide +kernel
theorem bt_min : bootBuiltins "min" = some (.builtin "min") := by decide +kernel
theorem bt_range : bootBuiltins "range" = some (.type "range") := by decide +kernel
theorem bt_sorted : bootBuiltins "sorted" = some (.builtin "sorted") := by decide +kernel
theorem bt_sum : bootBuiltins "sum" = some (.builtin "sum") := by decide +kernel
theorem bt_tuple : bootBuiltins "tuple" = some (.type "tuple") := by decide +kernel
structure Txt (K : PySem.W.Frag) (mg : Str → Option Value) (base : Heap) (T : Tb) : Prop where
  F_divisor : ∃ fd, FunD K "divisor" "divisor" (defArgs s_divisor) (defBody s_divisor) (defScope s_divisor) [] [] (He.ga K "divisor") fd
  m_divisor : mg "divisor" = some (.ref (He.ga K "divisor"))
  F_fraction : ∃ fd, FunD K "fraction" "fraction" (defArgs s_fraction) (defBody s_fraction) (defScope s_fraction) [] [] (He.ga K "fraction") fd
  m_fraction : mg "fraction" = some (.ref (He.ga K "fraction"))
  F_power : ∃ fd, FunD K "power" "power" (defArgs s_power) (defBody s_power) (defScope s_power) [] [] (He.ga K "power") fd
  m_power : mg "power" = some (.ref (He.ga K "power"))
  F_stands : ∃ fd, FunD K "stands" "stands" (defArgs s_stands) (defBody s_stands) (defScope s_stands) [] [] (He.ga K "stands") fd
  m_stands : mg "stands" = some (.ref (He.ga K "stands"))
  F_step : ∃ fd, FunD K "step" "step" (defArgs s_step) (defBody s_step) (defScope s_step) [] [] (He.ga K "step") fd
  m_step : mg "step" = some (.ref (He.ga K "step"))
  F_faces_many : ∃ fd, FunD K "faces_many" "faces_many" (defArgs s_faces_many) (defBody s_faces_many) (defScope s_faces_many) [] [] (He.ga K "faces_many") fd
  m_faces_many : mg "faces_many" = some (.ref (He.ga K "faces_many"))
  F_face : ∃ fd, FunD K "face" "face" (defArgs s_face) (defBody s_face) (defScope s_face) [] [] (He.ga K "face") fd
  m_face : mg "face" = some (.ref (He.ga K "face"))
  F_drawn : ∃ fd, FunD K "drawn" "drawn" (defArgs s_drawn) (defBody s_drawn) (defScope s_drawn) [] [] (He.ga K "drawn") fd
  m_drawn : mg "drawn" = some (.ref (He.ga K "drawn"))
  F_size_for : ∃ fd, FunD K "size_for" "size_for" (defArgs s_size_for) (defBody s_size_for) (defScope s_size_for) [] [] (He.ga K "size_for") fd
  m_size_for : mg "size_for" = some (.ref (He.ga K "size_for"))
  F_below : ∃ fd, FunD K "below" "below" (defArgs s_below) (defBody s_below) (defScope s_below) [] [] (He.ga K "below") fd
  m_below : mg "below" = some (.ref (He.ga K "below"))
  F_mixed : ∃ fd, FunD K "mixed" "mixed" (defArgs s_mixed) (defBody s_mixed) (defScope s_mixed) [] [] (He.ga K "mixed") fd
  m_mixed : mg "mixed" = some (.ref (He.ga K "mixed"))
  F_orders : ∃ fd, FunD K "orders" "orders" (defArgs s_orders) (defBody s_orders) (defScope s_orders) [] [] (He.ga K "orders") fd
  m_orders : mg "orders" = some (.ref (He.ga K "orders"))
  F_expected : ∃ fd, FunD K "expected" "expected" (defArgs s_expected) (defBody s_expected) (defScope s_expected) [] [] (He.ga K "expected") fd
  m_expected : mg "expected" = some (.ref (He.ga K "expected"))
  F_xlaw_cell_at : ∃ fd, FunD K "_law_cell_at" "_law_cell_at" (defArgs s_xlaw_cell_at) (defBody s_xlaw_cell_at) (defScope s_xlaw_cell_at) [] [] (He.ga K "_law_cell_at") fd
  m_xlaw_cell_at : mg "_law_cell_at" = some (.ref (He.ga K "_law_cell_at"))
  F_xlaw_mixed : ∃ fd, FunD K "_law_mixed" "_law_mixed" (defArgs s_xlaw_mixed) (defBody s_xlaw_mixed) (defScope s_xlaw_mixed) [] [] (He.ga K "_law_mixed") fd
  m_xlaw_mixed : mg "_law_mixed" = some (.ref (He.ga K "_law_mixed"))
  F_xlaw_drawn : ∃ fd, FunD K "_law_drawn" "_law_drawn" (defArgs s_xlaw_drawn) (defBody s_xlaw_drawn) (defScope s_xlaw_drawn) [] [] (He.ga K "_law_drawn") fd
  m_xlaw_drawn : mg "_law_drawn" = some (.ref (He.ga K "_law_drawn"))
  F_xlaw_maker : ∃ fd, FunD K "_law_maker" "_law_maker" (defArgs s_xlaw_maker) (defBody s_xlaw_maker) (defScope s_xlaw_maker) [] [] (He.ga K "_law_maker") fd
  m_xlaw_maker : mg "_law_maker" = some (.ref (He.ga K "_law_maker"))
  F_xlaw_frac : ∃ fd, FunD K "_law_frac" "_law_frac" (defArgs s_xlaw_frac) (defBody s_xlaw_frac) (defScope s_xlaw_frac) [] [] (He.ga K "_law_frac") fd
  m_xlaw_frac : mg "_law_frac" = some (.ref (He.ga K "_law_frac"))
  F_xlaw_told : ∃ fd, FunD K "_law_told" "_law_told" (defArgs s_xlaw_told) (defBody s_xlaw_told) (defScope s_xlaw_told) [] [] (He.ga K "_law_told") fd
  m_xlaw_told : mg "_law_told" = some (.ref (He.ga K "_law_told"))
  F_law : ∃ fd, FunD K "law" "law" (defArgs s_law) (defBody s_law) (defScope s_law) [] [] (He.ga K "law") fd
  m_law : mg "law" = some (.ref (He.ga K "law"))
  c_BITS : ∃ t, mg "BITS" = some (.str "bits" t)
  c_MOST_TRIES : ∃ t, mg "MOST_TRIES" = some (.int 1000 t)
  c_SUMS : ∃ t, mg "SUMS" = some (.str "sums" t)
  b_ValueError : mg "ValueError" = none
  b_abs : mg "abs" = none
  b_dict : mg "dict" = none
  b_int : mg "int" = none
  b_isinstance : mg "isinstance" = none
  b_len : mg "len" = none
  b_list : mg "list" = none
  b_min : mg "min" = none
  b_range : mg "range" = none
  b_sorted : mg "sorted" = none
  b_sum : mg "sum" = none
  b_tuple : mg "tuple" = none
  cT_xlaw_maker : CTb K mg base T "_law_maker"
  cT_law : CTb K mg base T "law"
  ET : ExT K mg ["NoEnd", "NoDeed", "NoText"]
  X_NoEnd : ExR K mg "NoEnd"
  X_NoDeed : ExR K mg "NoDeed"
  X_NoText : ExR K mg "NoText"
section
variable {P : Program} {w : World} {K : PySem.W.Frag} {mg : Str → Option Value} {base : Heap} {T : Tb}
theorem told_xlaw_told (t : Txt K mg base T) : Told K mg "_law_told" (TTold K cls3) := mkTold t.F_xlaw_told t.m_xlaw_told sc_xlaw_told (fun _ _ _ _ _ _ us hl => match us, hl with | [_], _ => rfl) rfl (Or.inl rfl) (by decide) (by decide) (fun X cdv q k e1 e2 hr => by
    subst e1 e2
    exact told3_gives t.ET t.b_isinstance t.b_ValueError hr rfl rfl rfl rfl rfl rfl rfl rfl rfl rfl rfl)
theorem ok_divisor (t : Txt K mg base T) : Ok P w K mg base T 1 "divisor" ["one", "other"] f_divisor := mkOk t.F_divisor t.m_divisor sc_divisor (fun _ _ _ _ _ _ us hl => match us, hl with | [_, _], _ => rfl) (fun _ _ _ h => h.1) (fun cdv A outer s H E hr =>
    (fss_cons (fs_while PassesOwn.never (ft_cmp (op_neD hr.units) od_ne (fe_var 1) fe_int (nomark _)) (fss_one (fs_par (i := 0) (j := 1) rfl nd_divisor rfl rfl (by decide) rfl rfl (by with_unfolding_all rfl) (fa_cons (fe_var 1) (fa_cons (fe_op op_mod od_mod (fe_var 0) (fe_var 1)) fa_nil)))))
      (fss_one (fs_ret (fe_var 0))))) (fun _ _ _ h => h.2)
theorem ok_fraction (t : Txt K mg base T) : Ok P w K mg base T 2 "fraction" ["upper", "lower"] f_fraction := mkOk t.F_fraction t.m_fraction sc_fraction (fun _ _ _ _ _ _ us hl => match us, hl with | [_, _], _ => rfl) (fun _ _ _ h => h.1) (fun cdv A outer s H E hr =>
    (fss_cons (fs_set (i := 2) nd_fraction rfl (by first | exact Or.inl rfl | exact Or.inr rfl) (fe_def (ok_divisor t) hr rfl (fa_cons (fe_callB call_abs cd_abs rfl t.b_abs bt_abs (fa_cons (fe_var 0) fa_nil)) (fa_cons (fe_var 1) fa_nil))))
      (fss_one (fs_ret (fe_tup (fa_cons (fe_op op_fdivW od_div (fe_var 0) (fe_var 2)) (fa_cons (fe_op op_fdivW od_div (fe_var 1) (fe_var 2)) fa_nil))))))) (fun _ _ _ h => h.2)
theorem ok_power (t : Txt K mg base T) : Ok P w K mg base T 1 "power" ["base", "many"] f_power := mkOk t.F_power t.m_power sc_power (fun _ _ _ _ _ _ us hl => match us, hl with | [_, _], _ => rfl) (fun _ _ _ h => h.1) (fun cdv A outer s H E hr =>
    (fss_cons (fs_set (i := 2) nd_power rfl (by first | exact Or.inl rfl | exact Or.inr rfl) fe_int)
      (fss_cons (fs_for PassesOwn.never rfl (fi_range1 rfl t.b_range (fa_cons (fe_var 1) fa_nil)) (fg_name (i := 3) nd_power rfl (by first | exact Or.inl rfl | exact Or.inr rfl)) (fss_one (fs_set (i := 2) nd_power rfl (by first | exact Or.inl rfl | exact Or.inr rfl) (fe_op op_mulA od_mul (fe_var 2) (fe_var 0)))))
      (fss_one (fs_ret (fe_var 2)))))) (fun _ _ _ h => h.2)
theorem ok_stands (t : Txt K mg base T) : Ok P w K mg base T 2 "stands" ["maker"] f_stands := mkOk t.F_stands t.m_stands sc_stands (fun _ _ _ _ _ _ us hl => match us, hl with | [_], _ => rfl) (fun _ _ _ h => h.1) (fun cdv A outer s H E hr =>
    (fss_cons (fs_if (ft_cmp (op_eqD hr.units) od_eq (fe_ix (fe_var 0) fe_int) (fe_gstr rfl t.c_SUMS) (nomark _)) (fss_one (fs_ret (fe_ix (fe_var 0) fe_int))) fss_nil)
      (fss_cons (fs_if (ft_cmp (op_eqD hr.units) od_eq (fe_ix (fe_var 0) fe_int) (fe_gstr rfl t.c_BITS) (nomark _)) (fss_one (fs_ret (fe_def (ok_power t) hr rfl (fa_cons fe_int (fa_cons (fe_ix (fe_var 0) fe_int) fa_nil))))) fss_nil)
      (fss_one (fs_ret (fe_callB call_lenA cd_len rfl t.b_len bt_len (fa_cons (fe_ix (fe_var 0) fe_int) fa_nil))))))) (fun _ _ _ h => h.2)
theorem ok_step (t : Txt K mg base T) : Ok P w K mg base T 3 "step" ["maker", "stand"] f_step := mkOk t.F_step t.m_step sc_step (fun _ _ _ _ _ _ us hl => match us, hl with | [_, _], _ => rfl) (fun _ _ _ h => h.1) (fun cdv A outer s H E hr =>
    (fss_cons (fs_if (ft_cmp (op_eqD hr.units) od_eq (fe_ix (fe_var 0) fe_int) (fe_gstr rfl t.c_SUMS) (nomark _)) (fss_one (fs_ret (fe_op op_mod od_mod (fe_op op_addA od_add (fe_op op_mulA od_mul (fe_ix (fe_var 0) fe_int) (fe_var 1)) (fe_ix (fe_var 0) fe_int)) (fe_ix (fe_var 0) fe_int)))) fss_nil)
      (fss_cons (fs_if (ft_cmp (op_eqD hr.units) od_eq (fe_ix (fe_var 0) fe_int) (fe_gstr rfl t.c_BITS) (nomark _)) (fss_cons (fs_set (i := 2) nd_step rfl (by first | exact Or.inl rfl | exact Or.inr rfl) (fe_op op_mod od_mod (fe_callBQ (cr_sum rfl) sd_sum rfl t.b_sum bt_sum (FE.fq (FN.fe (fn_lc (own := [("tap", 3)]) rfl nd_step (FI.any (fi_of (fe_ix (fe_var 0) fe_int))) (blkOk_by (by kernel_rfl)) (fun _ _ _ _ _ => (fg_name (i := 3) nd_step rfl (by first | exact Or.inl rfl | exact Or.inr rfl))) (fun _ _ _ _ _ => fts_nil) (fun _ _ _ _ _ => (fe_op op_mod od_mod (fe_op op_fdivW od_div (fe_var 1) (fe_def (ok_power t) hr rfl (fa_cons fe_int (fa_cons (fe_var 3) fa_nil)))) fe_int)))))) fe_int))
      (fss_one (fs_ret (fe_op op_addA od_add (fe_op op_mod od_mod (fe_op op_mulA od_mul fe_int (fe_var 1)) (fe_def (ok_stands t) hr rfl (fa_cons (fe_var 0) fa_nil))) (fe_var 2))))) fss_nil)
      (fss_one (fs_ret (fe_ix (fe_ix (fe_var 0) fe_int) (fe_var 1))))))) (fun _ _ _ h => h.2)
theorem ok_faces_many (t : Txt K mg base T) : Ok P w K mg base T 1 "faces_many" ["maker"] f_faces_many := mkOk t.F_faces_many t.m_faces_many sc_faces_many (fun _ _ _ _ _ _ us hl => match us, hl with | [_], _ => rfl) (fun _ _ _ h => h.1) (fun cdv A outer s H E hr =>
    (fss_one (fs_ret (fe_ix (fe_var 0) (fe_neg fe_int))))) (fun _ _ _ h => h.2)
theorem ok_face (t : Txt K mg base T) : Ok P w K mg base T 1 "face" ["maker", "stand"] f_face := mkOk t.F_face t.m_face sc_face (fun _ _ _ _ _ _ us hl => match us, hl with | [_, _], _ => rfl) (fun _ _ _ h => h.1) (fun cdv A outer s H E hr =>
    (fss_cons (fs_if (ft_cmp (op_eqD hr.units) od_eq (fe_ix (fe_var 0) fe_int) (fe_gstr rfl t.c_SUMS) (nomark _)) (fss_one (fs_ret (fe_op op_fdivW od_div (fe_op op_mulA od_mul (fe_var 1) (fe_ix (fe_var 0) fe_int)) (fe_ix (fe_var 0) fe_int)))) fss_nil)
      (fss_cons (fs_if (ft_cmp (op_eqD hr.units) od_eq (fe_ix (fe_var 0) fe_int) (fe_gstr rfl t.c_BITS) (nomark _)) (fss_one (fs_ret (fe_op op_mod od_mod (fe_var 1) (fe_ix (fe_var 0) fe_int)))) fss_nil)
      (fss_one (fs_ret (fe_ix (fe_ix (fe_var 0) fe_int) (fe_var 1))))))) (fun _ _ _ h => h.2)
theorem ok_drawn (t : Txt K mg base T) : Ok P w K mg base T 4 "drawn" ["maker", "stand", "many"] f_drawn := mkOk t.F_drawn t.m_drawn sc_drawn (fun _ _ _ _ _ _ us hl => match us, hl with | [_, _, _], _ => rfl) (fun _ _ _ h => h.1) (fun cdv A outer s H E hr =>
    (fss_cons (fs_set (i := 3) nd_drawn rfl (by first | exact Or.inl rfl | exact Or.inr rfl) (fe_tup fa_nil))
      (fss_cons (fs_for PassesOwn.never rfl (fi_range1 rfl t.b_range (fa_cons (fe_var 2) fa_nil)) (fg_name (i := 4) nd_drawn rfl (by first | exact Or.inl rfl | exact Or.inr rfl)) (fss_cons (fs_set (i := 3) nd_drawn rfl (by first | exact Or.inl rfl | exact Or.inr rfl) (fe_op op_addA od_add (fe_var 3) (fe_tup (fa_cons (fe_def (ok_face t) hr rfl (fa_cons (fe_var 0) (fa_cons (fe_var 1) fa_nil))) fa_nil))))
      (fss_one (fs_set (i := 1) nd_drawn rfl (by first | exact Or.inl rfl | exact Or.inr rfl) (fe_def (ok_step t) hr rfl (fa_cons (fe_var 0) (fa_cons (fe_var 1) fa_nil)))))))
      (fss_one (fs_ret (fe_var 3)))))) (fun _ _ _ h => h.2)
theorem ok_size_for (t : Txt K mg base T) : Ok P w K mg base T 1 "size_for" ["sides", "bound"] f_size_for := mkOk t.F_size_for t.m_size_for sc_size_for (fun _ _ _ _ _ _ us hl => match us, hl with | [_, _], _ => rfl) (fun _ _ _ h => h.1) (fun cdv A outer s H E hr =>
    (fss_cons (fs_set (i := 2) nd_size_for rfl (by first | exact Or.inl rfl | exact Or.inr rfl) fe_int)
      (fss_cons (fs_set (i := 3) nd_size_for rfl (by first | exact Or.inl rfl | exact Or.inr rfl) fe_int)
      (fss_cons (fs_while PassesOwn.never (ft_cmp op_lt od_lt (fe_var 3) (fe_var 1) (nomark _)) (fss_cons (fs_set (i := 3) nd_size_for rfl (by first | exact Or.inl rfl | exact Or.inr rfl) (fe_op op_mulA od_mul (fe_var 3) (fe_var 0)))
      (fss_one (fs_set (i := 2) nd_size_for rfl (by first | exact Or.inl rfl | exact Or.inr rfl) (fe_op op_addA od_add (fe_var 2) fe_int)))))
      (fss_one (fs_ret (fe_var 2))))))) (fun _ _ _ h => h.2)
theorem ok_below (t : Txt K mg base T) : OkX P w K mg base T 5 "below" ["maker", "stand", "bound"] f_below := mkOkX t.F_below t.m_below sc_below (fun _ _ _ _ _ _ us hl => match us, hl with | [_, _, _], _ => rfl) (fun _ _ _ h => h.1) (fun cdv A outer s H E hr tx px =>
    (fss_cons (fs_set (i := 3) nd_below rfl (by first | exact Or.inl rfl | exact Or.inr rfl) (fe_def (ok_size_for t) hr rfl (fa_cons (fe_def (ok_faces_many t) hr rfl (fa_cons (fe_var 0) fa_nil)) (fa_cons (fe_var 2) fa_nil))))
      (fss_cons (fs_for px rfl (fi_range2 rfl t.b_range (fa_cons fe_int (fa_cons (fe_op op_addA od_add (fe_gint rfl t.c_MOST_TRIES) fe_int) fa_nil))) (fg_name (i := 4) nd_below rfl (by first | exact Or.inl rfl | exact Or.inr rfl)) (fss_cons (fs_set (i := 5) nd_below rfl (by first | exact Or.inl rfl | exact Or.inr rfl) fe_int)
      (fss_cons (fs_for px rfl (fi_of (fe_def (ok_drawn t) hr rfl (fa_cons (fe_var 0) (fa_cons (fe_var 1) (fa_cons (fe_var 3) fa_nil))))) (fg_name (i := 6) nd_below rfl (by first | exact Or.inl rfl | exact Or.inr rfl)) (fss_one (fs_set (i := 5) nd_below rfl (by first | exact Or.inl rfl | exact Or.inr rfl) (fe_op op_addA od_add (fe_op op_mulA od_mul (fe_var 5) (fe_def (ok_faces_many t) hr rfl (fa_cons (fe_var 0) fa_nil))) (fe_var 6)))))
      (fss_cons (fs_for px rfl (fi_range1 rfl t.b_range (fa_cons (fe_var 3) fa_nil)) (fg_name (i := 7) nd_below rfl (by first | exact Or.inl rfl | exact Or.inr rfl)) (fss_one (fs_set (i := 1) nd_below rfl (by first | exact Or.inl rfl | exact Or.inr rfl) (fe_def (ok_step t) hr rfl (fa_cons (fe_var 0) (fa_cons (fe_var 1) fa_nil))))))
      (fss_one (fs_if (ft_cmp op_lt od_lt (fe_var 5) (fe_var 2) (nomark _)) (fss_one (fs_ret (fe_tup (fa_cons (fe_var 5) (fa_cons (fe_var 1) (fa_cons (fe_op op_mulA od_mul (fe_var 4) (fe_var 3)) fa_nil)))))) fss_nil))))))
      (fss_one (fs_raise rfl tx t.X_NoEnd rfl))))) (fun _ _ _ h => h.2)
theorem ok_mixed (t : Txt K mg base T) : OkX P w K mg base T 6 "mixed" ["maker", "stand", "row"] f_mixed := mkOkX t.F_mixed t.m_mixed sc_mixed (fun _ _ _ _ _ _ us hl => match us, hl with | [_, _, _], _ => rfl) (fun _ _ _ h => h.1) (fun cdv A outer s H E hr tx px =>
    (fss_cons (fs_setO (i := 3) nd_mixed rfl (by first | exact Or.inl rfl | exact Or.inr rfl) (fn_listQ rfl t.b_list bt_list (FE.fq (fe_var 2))))
      (fss_cons (fs_for px rfl (fi_range3 rfl t.b_range (fa_cons (fe_op op_sub od_sub (fe_callB call_lenA cd_len rfl t.b_len bt_len (fa_cons (fe_var 2) fa_nil)) fe_int) (fa_cons fe_int (fa_cons (fe_neg fe_int) fa_nil)))) (fg_name (i := 4) nd_mixed rfl (by first | exact Or.inl rfl | exact Or.inr rfl)) (fss_cons (fs_asg (fe_defX (ok_below t) tx hr rfl (fa_cons (fe_var 0) (fa_cons (fe_var 1) (fa_cons (fe_op op_addA od_add (fe_var 4) fe_int) fa_nil)))) (fg_tup rfl (fgs_cons (fg_name (i := 5) nd_mixed rfl (by first | exact Or.inl rfl | exact Or.inr rfl)) (fgs_cons (fg_name (i := 1) nd_mixed rfl (by first | exact Or.inl rfl | exact Or.inr rfl)) (fgs_cons (fg_name (i := 6) nd_mixed rfl (by first | exact Or.inl rfl | exact Or.inr rfl)) fgs_nil)))))
      (fss_one (fs_asgX (fe_tup (fa_cons (fe_ixQ (fq_own 3) (fe_var 5)) (fa_cons (fe_ixQ (fq_own 3) (fe_var 4)) fa_nil))) (fx_tup rfl (fxs_cons (fx_sub (E := E) 3 (fe_var 4)) (fxs_cons (fx_sub (E := E) 3 (fe_var 5)) fxs_nil)))))))
      (fss_one (fs_ret (fe_tup (fa_cons (fe_tupleQ rfl t.b_tuple bt_tuple (fq_own 3)) (fa_cons (fe_var 1) fa_nil)))))))) (fun _ _ _ h => h.2)
theorem ok_orders (t : Txt K mg base T) : OkXP P w K mg base T 7 "orders" ["maker", "many"] f_orders := mkOkXP t.F_orders t.m_orders sc_orders (fun _ _ _ _ _ _ us hl => match us, hl with | [_, _], _ => rfl) (fun _ _ _ h => h.1) (fun cdv A outer s H E hr tx px =>
    (fsp_cons (fs_setM (i := 2) nd_orders rfl (by first | exact Or.inl rfl | exact Or.inr rfl) fm_newN)
      (fsp_cons (fs_for px rfl (fi_range1 rfl t.b_range (fa_cons (fe_def (ok_stands t) hr rfl (fa_cons (fe_var 0) fa_nil)) fa_nil)) (fg_name (i := 3) nd_orders rfl (by first | exact Or.inl rfl | exact Or.inr rfl)) (fss_cons (fs_set (i := 4) nd_orders rfl (by first | exact Or.inl rfl | exact Or.inr rfl) (fe_ix (fe_defX (ok_mixed t) tx hr rfl (fa_cons (fe_var 0) (fa_cons (fe_var 3) (fa_cons (fe_tupRg rfl rfl t.b_tuple (fr_1 rfl t.b_range (fe_var 1))) fa_nil)))) fe_int))
      (fss_one (fs_putN 2 (units65 hr) (fe_var 4) (fe_op op_addA od_add (fe_getN (units65 hr) (fd_var 2) (fe_var 4) fe_int) fe_int)))))
      (fsp_ret (fp_tuple rfl t.b_tuple bt_tuple (FE.fq (FN.fe (fn_sortIt rfl (units65 hr) rfl t.b_sorted bt_sorted (fd_var 2))))))))) (fun _ _ _ h => h.2)
theorem ok_expected (t : Txt K mg base T) : Ok P w K mg base T 3 "expected" ["many"] f_expected := mkOk t.F_expected t.m_expected sc_expected (fun _ _ _ _ _ _ us hl => match us, hl with | [_], _ => rfl) (fun _ _ _ h => h.1) (fun cdv A outer s H E hr =>
    (fss_cons (fs_set (i := 1) nd_expected rfl (by first | exact Or.inl rfl | exact Or.inr rfl) fe_int)
      (fss_cons (fs_for PassesOwn.never rfl (fi_range2 rfl t.b_range (fa_cons fe_int (fa_cons (fe_op op_addA od_add (fe_var 0) fe_int) fa_nil))) (fg_name (i := 2) nd_expected rfl (by first | exact Or.inl rfl | exact Or.inr rfl)) (fss_one (fs_set (i := 1) nd_expected rfl (by first | exact Or.inl rfl | exact Or.inr rfl) (fe_op op_mulA od_mul (fe_var 1) (fe_var 2)))))
      (fss_one (fs_ret (fe_def (ok_fraction t) hr rfl (fa_cons fe_int (fa_cons (fe_var 1) fa_nil)))))))) (fun _ _ _ h => h.2)
theorem ok_xlaw_cell_at (t : Txt K mg base T) : Ok P w K mg base T 1 "_law_cell_at" ["script", "k"] f_xlaw_cell_at := mkOk t.F_xlaw_cell_at t.m_xlaw_cell_at sc_xlaw_cell_at (fun _ _ _ _ _ _ us hl => match us, hl with | [_, _], _ => rfl) (fun _ _ _ h => h.1) (fun cdv A outer s H E hr =>
    (fss_cons (fs_if (ft_cmp op_lt od_lt (fe_var 1) (fe_callB call_lenA cd_len rfl t.b_len bt_len (fa_cons (fe_var 0) fa_nil)) (nomark _)) (fss_one (fs_ret (fe_ix (fe_var 0) (fe_var 1)))) fss_nil)
      (fss_one (fs_ret fe_int)))) (fun _ _ _ h => h.2)
theorem ok_xlaw_mixed (t : Txt K mg base T) : Ok P w K mg base T 2 "_law_mixed" ["script", "k"] f_xlaw_mixed := mkOk t.F_xlaw_mixed t.m_xlaw_mixed sc_xlaw_mixed (fun _ _ _ _ _ _ us hl => match us, hl with | [_, _], _ => rfl) (fun _ _ _ h => h.1) (fun cdv A outer s H E hr =>
    (fss_cons (fs_set (i := 2) nd_xlaw_mixed rfl (by first | exact Or.inl rfl | exact Or.inr rfl) (fe_op op_mod od_mod (fe_op op_mulA od_mul (fe_op op_addA od_add (fe_op op_addA od_add (fe_def (ok_xlaw_cell_at t) hr rfl (fa_cons (fe_var 0) (fa_cons (fe_var 1) fa_nil))) (fe_op op_mulA od_mul fe_int (fe_var 1))) fe_int) fe_int) fe_int))
      (fss_one (fs_ret (fe_op op_mod od_mod (fe_op op_addA od_add (fe_op op_addA od_add (fe_op op_mulA od_mul (fe_var 2) (fe_var 2)) (fe_op op_mulA od_mul fe_int (fe_var 2))) (fe_var 1)) fe_int))))) (fun _ _ _ h => h.2)
theorem ok_xlaw_drawn (t : Txt K mg base T) : Ok P w K mg base T 1 "_law_drawn" ["number", "k"] f_xlaw_drawn := mkOk t.F_xlaw_drawn t.m_xlaw_drawn sc_xlaw_drawn (fun _ _ _ _ _ _ us hl => match us, hl with | [_, _], _ => rfl) (fun _ _ _ h => h.1) (fun cdv A outer s H E hr =>
    (fss_cons (fs_set (i := 2) nd_xlaw_drawn rfl (by first | exact Or.inl rfl | exact Or.inr rfl) (fe_op op_mod od_mod (fe_op op_mulA od_mul (fe_op op_addA od_add (fe_op op_addA od_add (fe_var 0) (fe_op op_mulA od_mul fe_int (fe_var 1))) fe_int) fe_int) fe_int))
      (fss_one (fs_ret (fe_op op_mod od_mod (fe_op op_addA od_add (fe_op op_addA od_add (fe_op op_mulA od_mul (fe_var 2) (fe_var 2)) (fe_op op_mulA od_mul fe_int (fe_var 2))) (fe_var 1)) fe_int))))) (fun _ _ _ h => h.2)
theorem ok_xlaw_maker (t : Txt K mg base T) : Ok P w K mg base T 5 "_law_maker" ["number", "most"] f_xlaw_maker := mkOkC t.F_xlaw_maker t.m_xlaw_maker t.cT_xlaw_maker sc_xlaw_maker (fun _ _ _ _ _ _ us hl => match us, hl with | [_, _], _ => rfl) (fun _ _ _ h => h.1) (fun c Pt A outer s H E TB hmT hu hr =>
    (fss_cons (fs_set (i := 2) nd_xlaw_maker rfl (by first | exact Or.inl rfl | exact Or.inr rfl) (fe_op op_addA od_add fe_int (fe_op op_mod od_mod (fe_var 0) fe_int)))
      (fss_cons (fs_set (i := 3) nd_xlaw_maker rfl (by first | exact Or.inl rfl | exact Or.inr rfl) (fe_op op_mod od_mod (fe_op op_fdivW od_div (fe_var 0) fe_int) fe_int))
      (fss_cons (fs_set (i := 4) nd_xlaw_maker rfl (by first | exact Or.inl rfl | exact Or.inr rfl) (fe_op op_fdivW od_div (fe_def (ok_xlaw_drawn t) hr rfl (fa_cons (fe_var 0) (fa_cons fe_int fa_nil))) fe_int))
      (fss_cons (fs_if (ft_cmp (op_eqD hr.units) od_eq (fe_var 3) fe_int (nomark _)) (fss_one (fs_ret (fe_tup (fa_cons fe_str (fa_cons (fe_op op_addA od_add fe_int (fe_op op_mod od_mod (fe_var 4) (fe_var 1))) (fa_cons (fe_op op_mod od_mod (fe_op op_fdivW od_div (fe_var 4) fe_int) fe_int) (fa_cons (fe_op op_mod od_mod (fe_op op_fdivW od_div (fe_var 4) fe_int) fe_int) (fa_cons (fe_var 2) fa_nil)))))))) fss_nil)
      (fss_cons (fs_if (ft_cmp (op_eqD hr.units) od_eq (fe_var 3) fe_int (nomark _)) (fss_cons (fs_set (i := 5) nd_xlaw_maker rfl (by first | exact Or.inl rfl | exact Or.inr rfl) (fe_op op_addA od_add fe_int (fe_op op_mod od_mod (fe_var 4) (fe_ix (fe_tup (fa_cons fe_int (fa_cons fe_int (fa_cons fe_int fa_nil)))) (fe_callB (call_min2 rfl) cd_min2 rfl t.b_min bt_min (fa_cons fe_int (fa_cons (fe_op op_fdivW od_div (fe_var 1) fe_int) fa_nil)))))))
      (fss_cons (fs_setLc (i := 8) (own := [("tap", 9)]) rfl nd_xlaw_maker rfl rfl (sw_true rfl rfl rfl (by decide +kernel)) (FI.any (fi_range1 rfl t.b_range (fa_cons (fe_var 5) fa_nil))) (blkOk_by (by kernel_rfl)) (fun _ _ _ _ _ => (fg_name (i := 9) nd_xlaw_maker rfl (by first | exact Or.inl rfl | exact Or.inr rfl))) (fun _ _ _ _ _ => (fts_one (ft_cmp (op_eqD hr.units) od_eq (fe_op op_mod od_mod (fe_op op_fdivW od_div (fe_var 4) (fe_ix (fe_tup (fa_cons fe_int (fa_cons fe_int (fa_cons fe_int (fa_cons fe_int (fa_cons fe_int (fa_cons fe_int fa_nil))))))) (fe_var 9))) fe_int) fe_int (nomark _)))) (fun _ _ _ _ _ => (fe_var 9)))
      (fss_one (fs_ret (fe_tup (fa_cons fe_str (fa_cons (fe_var 5) (fa_cons (fe_callTy call_tuple_of cd_tuple rfl t.b_tuple bt_tuple (fa_cons (fe_op op_addA od_add (fe_var 8) (FN.fe (fn_rep (fn_lst (fa_cons (fe_op op_sub od_sub (fe_var 5) fe_int) fa_nil)) (fe_callTy call_int1 cd_int rfl t.b_int bt_int (fa_cons (fe_cmp (op_eqD hr.units) od_eq (fe_var 8) (FN.fe (fn_lst fa_nil)) (nomark _)) fa_nil))))) fa_nil)) (fa_cons (fe_var 2) fa_nil))))))))) fss_nil)
      (fss_cons (fs_set (i := 5) nd_xlaw_maker rfl (by first | exact Or.inl rfl | exact Or.inr rfl) (fe_op op_addA od_add fe_int (fe_op op_mod od_mod (fe_var 4) (fe_var 1))))
      (fss_cons (fs_set (i := 6) nd_xlaw_maker rfl (by first | exact Or.inl rfl | exact Or.inr rfl) (fe_callTy call_tuple_of cd_tuple rfl t.b_tuple bt_tuple (fa_cons (FN.fe (fn_lc (own := [("k", 10)]) rfl nd_xlaw_maker (FI.any (fi_range1 rfl t.b_range (fa_cons (fe_var 5) fa_nil))) (blkOk_by (by kernel_rfl)) (fun _ _ _ _ _ => (fg_name (i := 10) nd_xlaw_maker rfl (by first | exact Or.inl rfl | exact Or.inr rfl))) (fun _ _ _ _ _ => fts_nil) (fun _ _ _ _ _ => (fe_op op_mod od_mod (fe_op op_fdivW od_div (fe_def (ok_xlaw_drawn t) hr rfl (fa_cons (fe_var 0) (fa_cons (fe_op op_addA od_add fe_int (fe_var 10)) fa_nil))) fe_int) (fe_var 5))))) fa_nil)))
      (fss_cons (fs_if (ft_cmp (op_eqD hr.units) od_eq (fe_op op_mod od_mod (fe_op op_fdivW od_div (fe_var 4) fe_int) fe_int) fe_int (nomark _)) (fss_one (fs_set (i := 6) nd_xlaw_maker rfl (by first | exact Or.inl rfl | exact Or.inr rfl) (fe_callTy call_tuple_of cd_tuple rfl t.b_tuple bt_tuple (fa_cons (FN.fe (fn_sortK (k := 1) rfl rfl t.b_sorted rfl t.b_range (fe_var 5) TB rfl hmT hu (hr.mono (by decide)) (lamS1_by (by kernel_rfl)) nd_xlaw_maker rfl rfl (fun _ _ _ _ _ _ => rfl) (fun A outer s H f c' hr => (fe_def (ok_xlaw_drawn t) hr rfl (fa_cons (fe_var 0) (fa_cons (fe_op op_addA od_add fe_int (fe_var 11)) fa_nil)))))) fa_nil)))) fss_nil)
      (fss_cons (fs_set (i := 7) nd_xlaw_maker rfl (by first | exact Or.inl rfl | exact Or.inr rfl) (fe_callTy call_tuple_of cd_tuple rfl t.b_tuple bt_tuple (fa_cons (FN.fe (fn_lc (own := [("k", 10)]) rfl nd_xlaw_maker (FI.any (fi_range1 rfl t.b_range (fa_cons (fe_var 5) fa_nil))) (blkOk_by (by kernel_rfl)) (fun _ _ _ _ _ => (fg_name (i := 10) nd_xlaw_maker rfl (by first | exact Or.inl rfl | exact Or.inr rfl))) (fun _ _ _ _ _ => fts_nil) (fun _ _ _ _ _ => (fe_op op_mod od_mod (fe_op op_fdivW od_div (fe_def (ok_xlaw_drawn t) hr rfl (fa_cons (fe_var 0) (fa_cons (fe_op op_addA od_add fe_int (fe_var 10)) fa_nil))) fe_int) (fe_ix (fe_tup (fa_cons (fe_var 2) (fa_cons fe_int fa_nil))) (fe_op op_mod od_mod (fe_op op_fdivW od_div (fe_var 4) fe_int) fe_int)))))) fa_nil)))
      (fss_one (fs_ret (fe_tup (fa_cons fe_str (fa_cons (fe_var 6) (fa_cons (fe_var 7) (fa_cons (fe_var 2) fa_nil))))))))))))))))) (fun _ _ _ h => h.2)
theorem ok_xlaw_frac (t : Txt K mg base T) : Ok P w K mg base T 1 "_law_frac" ["upper", "lower"] f_xlaw_frac := mkOk t.F_xlaw_frac t.m_xlaw_frac sc_xlaw_frac (fun _ _ _ _ _ _ us hl => match us, hl with | [_, _], _ => rfl) (fun _ _ _ h => h.1) (fun cdv A outer s H E hr =>
    (fss_cons (fs_par (i := 2) (j := 3) rfl nd_xlaw_frac rfl rfl (by decide) rfl rfl (by with_unfolding_all rfl) (fa_cons (fe_callB call_abs cd_abs rfl t.b_abs bt_abs (fa_cons (fe_var 0) fa_nil)) (fa_cons (fe_var 1) fa_nil)))
      (fss_cons (fs_while PassesOwn.never (ft_cmp (op_neD hr.units) od_ne (fe_var 3) fe_int (nomark _)) (fss_one (fs_par (i := 2) (j := 3) rfl nd_xlaw_frac rfl rfl (by decide) rfl rfl (by with_unfolding_all rfl) (fa_cons (fe_var 3) (fa_cons (fe_op op_mod od_mod (fe_var 2) (fe_var 3)) fa_nil)))))
      (fss_one (fs_ret (fe_tup (fa_cons (fe_op op_fdivW od_div (fe_var 0) (fe_var 2)) (fa_cons (fe_op op_fdivW od_div (fe_var 1) (fe_var 2)) fa_nil)))))))) (fun _ _ _ h => h.2)
theorem ok_law (t : Txt K mg base T) : Ok P w K mg base T 11 "law" ["script"] f_law := mkOkC t.F_law t.m_law t.cT_law sc_law (fun _ _ _ _ _ _ us hl => match us, hl with | [_], _ => rfl) (fun _ _ _ h => h.1) (fun c Pt A outer s H E TB hmT hu hr =>
    (fss_cons (fs_set (i := 1) nd_law rfl (by first | exact Or.inl rfl | exact Or.inr rfl) (fe_def (ok_xlaw_maker t) hr rfl (fa_cons (fe_def (ok_xlaw_mixed t) hr rfl (fa_cons (fe_var 0) (fa_cons fe_int fa_nil))) (fa_cons fe_int fa_nil))))
      (fss_cons (fs_set (i := 2) nd_law rfl (by first | exact Or.inl rfl | exact Or.inr rfl) (fe_def (ok_xlaw_mixed t) hr rfl (fa_cons (fe_var 0) (fa_cons fe_int fa_nil))))
      (fss_cons (fs_set (i := 3) nd_law rfl (by first | exact Or.inl rfl | exact Or.inr rfl) (fe_op op_addA od_add fe_int (fe_op op_mod od_mod (fe_var 2) fe_int)))
      (fss_cons (fs_set (i := 4) nd_law rfl (by first | exact Or.inl rfl | exact Or.inr rfl) (fe_ix (fe_tup (fa_cons fe_int (fa_cons fe_int (fa_cons fe_int (fa_cons fe_int (fa_cons fe_int fa_nil)))))) (fe_var 3)))
      (fss_cons (fs_if (ft_cmp (op_neD hr.units) od_ne (fe_def (ok_expected t) hr rfl (fa_cons (fe_var 3) fa_nil)) (fe_def (ok_xlaw_frac t) hr rfl (fa_cons fe_int (fa_cons (fe_var 4) fa_nil))) (nomark _)) (fss_one (fs_ret fe_bl)) fss_nil)
      (fss_cons (fs_toldP (i := 5) (k := 7) (cd := dcls3) nd_law rfl (by first | exact Or.inl rfl | exact Or.inr rfl) (told_xlaw_told t) dcls3_ok cls3_nr rfl TB rfl hmT hu hr (lamS_by (by kernel_rfl)) rfl (fun _ _ _ _ _ => rfl) (fun A outer s H E f c' hr => (fp_defX (ok_orders t) tx_lam hr rfl (fa_cons (fe_var 1) (fa_cons (fe_var 3) fa_nil)))))
      (fss_cons (fs_if (ft_cmp (op_eqD hr.units) od_eq (fe_ix (fe_varT 5) fe_int) fe_str (nomark _)) (fss_one (fs_ret (fe_cmp (op_eqD hr.units) od_eq (fe_varT 5) (fe_tup (fa_cons fe_str (fa_cons fe_int fa_nil))) (nomark _)))) fss_nil)
      (fss_cons (fs_itemP (i := 6) (j := 5) nd_law rfl (by first | exact Or.inl rfl | exact Or.inr rfl) rfl (by first | exact Or.inl rfl | exact Or.inr (Or.inl rfl) | exact Or.inr (Or.inr rfl)))
      (fss_cons (fs_if (FW.ft (fw_or (ft_cmp (op_neD hr.units) od_ne (FN.fe (fn_listQ rfl t.b_list bt_list (FE.fq (FP.fe (fp_var 6))))) (FN.fe (fn_sortD (units65 hr) rfl t.b_sorted bt_sorted (FE.fq (FP.fe (fp_var 6))))) (nomark _)) (fw_or (ft_cmp (op_neD hr.units) od_ne (fe_callBQ (cr_sum rfl) sd_sum rfl t.b_sum bt_sum (FE.fq (FN.fe (fn_lc (own := [("order", 10), ("many", 12)]) rfl nd_law (FI.any (fi_of (FP.fe (fp_var 6)))) (blkOk_by (by kernel_rfl)) (fun _ _ _ _ _ => (fg_tup rfl (fgs_cons (fg_name (i := 10) nd_law rfl (by first | exact Or.inl rfl | exact Or.inr rfl)) (fgs_cons (fg_name (i := 12) nd_law rfl (by first | exact Or.inl rfl | exact Or.inr rfl)) fgs_nil)))) (fun _ _ _ _ _ => fts_nil) (fun _ _ _ _ _ => (fe_var 12)))))) (fe_def (ok_stands t) hr rfl (fa_cons (fe_var 1) fa_nil)) (nomark _)) (fw_or1 (ft_cmp op_gt od_gt (fe_callB call_lenA cd_len rfl t.b_len bt_len (fa_cons (FP.fe (fp_var 6)) fa_nil)) (fe_var 4) (nomark _)))))) (fss_one (fs_ret fe_bl)) fss_nil)
      (fss_cons (fs_setDct (i := 7) nd_law rfl (by first | exact Or.inl rfl | exact Or.inr rfl) (fm_dictT rfl (units65 hr) rfl t.b_dict bt_dict (fp_var 6)))
      (fss_cons (fs_if (FW.ft (fw_or (ft_cmp (op_neD hr.units) od_ne (fe_lenD 7 rfl t.b_len bt_len) (fe_callB call_lenA cd_len rfl t.b_len bt_len (fa_cons (FP.fe (fp_var 6)) fa_nil)) (nomark _)) (fw_or1 (ft_cmp (op_neD hr.units) od_ne (FN.fe (fn_lc (own := [("one", 11)]) rfl nd_law (fi_keysD 7) (blkOk_by (by kernel_rfl)) (fun _ _ _ _ _ => (fg_name (i := 11) nd_law rfl (by first | exact Or.inl rfl | exact Or.inr rfl))) (fun _ _ _ _ _ => (fts_one (ft_cmp (op_neD hr.units) od_ne (FN.fe (fn_sortD (units65 hr) rfl t.b_sorted bt_sorted (FE.fq (fe_var 11)))) (FN.fe (fn_listRg rfl rfl t.b_list (fr_1 rfl t.b_range (fe_var 3)))) (nomark _)))) (fun _ _ _ _ _ => (fe_var 11)))) (FN.fe (fn_lst fa_nil)) (nomark _))))) (fss_one (fs_ret fe_bl)) fss_nil)
      (fss_cons (fs_setM (i := 8) nd_law rfl (by first | exact Or.inl rfl | exact Or.inr rfl) fm_newN)
      (fss_cons (fs_for PassesOwn.never rfl (fi_range1 rfl t.b_range (fa_cons (fe_def (ok_stands t) hr rfl (fa_cons (fe_var 1) fa_nil)) fa_nil)) (fg_name (i := 9) nd_law rfl (by first | exact Or.inl rfl | exact Or.inr rfl)) (fss_cons (fs_set (i := 10) nd_law rfl (by first | exact Or.inl rfl | exact Or.inr rfl) (fe_ix (fe_defN (ok_mixed t) hr rfl (fa_cons (fe_var 1) (fa_cons (fe_var 9) (fa_cons (fe_tupRg rfl rfl t.b_tuple (fr_1 rfl t.b_range (fe_var 3))) fa_nil)))) fe_int))
      (fss_one (fs_putN 8 (units65 hr) (fe_var 10) (fe_op op_addA od_add (fe_getN (units65 hr) (fd_var 8) (fe_var 10) fe_int) fe_int)))))
      (fss_one (fs_ret (fe_and (fe_eqD 8 7 (units65 hr)) (fe_one (fe_or (fe_cmp op_gt od_gt (fe_var 3) fe_int (nomark _)) (fe_one (fe_cmp (op_eqD hr.units) od_eq (FP.fe (fp_var 6)) (fe_tup (fa_cons (fe_tup (fa_cons (fe_tup (fa_cons fe_int fa_nil)) (fa_cons (fe_def (ok_stands t) hr rfl (fa_cons (fe_var 1) fa_nil)) fa_nil))) fa_nil)) (nomark _)))))))))))))))))))))) (fun _ _ _ h => h.2)
end
end Dm
end
section
set_option Elab.async false
set_option linter.all false
set_option maxRecDepth 100000
set_option autoImplicit false
set_option maxHeartbeats 0
namespace Dm
open PySem PySem.Spec PyProof.Rows L2 LamX Fd
def d_divisor : He.DefD := ⟨("divisor", none), "divisor", "divisor", defArgs s_divisor, defBody s_divisor, defScope s_divisor, [], []⟩
def d_fraction : He.DefD := ⟨("fraction", none), "fraction", "fraction", defArgs s_fraction, defBody s_fraction, defScope s_fraction, [], []⟩
def d_power : He.DefD := ⟨("power", none), "power", "power", defArgs s_power, defBody s_power, defScope s_power, [], []⟩
def d_stands : He.DefD := ⟨("stands", none), "stands", "stands", defArgs s_stands, defBody s_stands, defScope s_stands, [], []⟩
def d_step : He.DefD := ⟨("step", none), "step", "step", defArgs s_step, defBody s_step, defScope s_step, [], []⟩
def d_faces_many : He.DefD := ⟨("faces_many", none), "faces_many", "faces_many", defArgs s_faces_many, defBody s_faces_many, defScope s_faces_many, [], []⟩
def d_face : He.DefD := ⟨("face", none), "face", "face", defArgs s_face, defBody s_face, defScope s_face, [], []⟩
def d_drawn : He.DefD := ⟨("drawn", none), "drawn", "drawn", defArgs s_drawn, defBody s_drawn, defScope s_drawn, [], []⟩
def d_size_for : He.DefD := ⟨("size_for", none), "size_for", "size_for", defArgs s_size_for, defBody s_size_for, defScope s_size_for, [], []⟩
def d_below : He.DefD := ⟨("below", none), "below", "below", defArgs s_below, defBody s_below, defScope s_below, [], []⟩
def d_mixed : He.DefD := ⟨("mixed", none), "mixed", "mixed", defArgs s_mixed, defBody s_mixed, defScope s_mixed, [], []⟩
def d_orders : He.DefD := ⟨("orders", none), "orders", "orders", defArgs s_orders, defBody s_orders, defScope s_orders, [], []⟩
def d_expected : He.DefD := ⟨("expected", none), "expected", "expected", defArgs s_expected, defBody s_expected, defScope s_expected, [], []⟩
def d_xlaw_cell_at : He.DefD := ⟨("_law_cell_at", none), "_law_cell_at", "_law_cell_at", defArgs s_xlaw_cell_at, defBody s_xlaw_cell_at, defScope s_xlaw_cell_at, [], []⟩
def d_xlaw_mixed : He.DefD := ⟨("_law_mixed", none), "_law_mixed", "_law_mixed", defArgs s_xlaw_mixed, defBody s_xlaw_mixed, defScope s_xlaw_mixed, [], []⟩
def d_xlaw_drawn : He.DefD := ⟨("_law_drawn", none), "_law_drawn", "_law_drawn", defArgs s_xlaw_drawn, defBody s_xlaw_drawn, defScope s_xlaw_drawn, [], []⟩
def d_xlaw_maker : He.DefD := ⟨("_law_maker", none), "_law_maker", "_law_maker", defArgs s_xlaw_maker, defBody s_xlaw_maker, defScope s_xlaw_maker, [], []⟩
def d_xlaw_frac : He.DefD := ⟨("_law_frac", none), "_law_frac", "_law_frac", defArgs s_xlaw_frac, defBody s_xlaw_frac, defScope s_xlaw_frac, [], []⟩
def d_xlaw_told : He.DefD := ⟨("_law_told", none), "_law_told", "_law_told", defArgs s_xlaw_told, defBody s_xlaw_told, defScope s_xlaw_told, [], []⟩
def d_law : He.DefD := ⟨("law", none), "law", "law", defArgs s_law, defBody s_law, defScope s_law, [], []⟩
def fn : List He.DefD := [d_divisor, d_fraction, d_power, d_stands, d_step, d_faces_many, d_face, d_drawn, d_size_for, d_below, d_mixed, d_orders, d_expected, d_xlaw_cell_at, d_xlaw_mixed, d_xlaw_drawn, d_xlaw_maker, d_xlaw_frac, d_xlaw_told, d_law]
def fa : List He.Fa := [.glo "divisor", .glo "fraction", .glo "power", .glo "stands", .glo "step", .glo "faces_many", .glo "face", .glo "drawn", .glo "size_for", .glo "below", .glo "mixed", .glo "orders", .glo "expected", .glo "_law_cell_at", .glo "_law_mixed", .glo "_law_drawn", .glo "_law_maker", .glo "_law_frac", .glo "_law_told", .glo "law", .str "BITS" "bits", .int "MOST_TRIES" 1000, .str "SUMS" "sums", .free "ValueError", .free "abs", .free "dict", .free "int", .free "isinstance", .free "len", .free "list", .free "min", .free "range", .free "sorted", .free "sum", .free "tuple", .glo "NoEnd", .glo "NoDeed", .glo "NoText", .exc "NoEnd", .exc "NoDeed", .exc "NoText", .glo "DrawError"]
def tf : List He.Defn := [("_law_maker", none), ("law", none)]
def ex (K : PySem.W.Frag) : Bool := extB K ["NoEnd", "NoDeed", "NoText"] && (decide ((He.cT K ("_law_maker", none)).2 ≠ (He.cT K ("law", none)).2))
abbrev R : PySem.W.OpenRow := PySem.W.OpenLaw.row PySem.Challenge.rw_drawmakers_k53_whole_orders_counted
abbrev hk : PySem.W.Hook := He.hookX 6 fa fn [] tf ex
def ob (s : PySem.W.SharedT) : He.AlX := He.obsX 6 fa fn [] tf ex (HandSHeadRun.getT s)
theorem ob_eq (s : PySem.W.SharedT) : ob s = hk.obs s.abs := He.obsX_eq (HandSHeadRun.getT_eq s)
def loose0 : List PySem.Str := ["DrawError", "NoEnd", "NoDeed", "NoText", "divisor", "fraction", "power", "SUMS", "BITS", "stands", "step", "faces_many", "face", "drawn", "MOST_TRIES", "size_for", "below", "mixed", "orders", "expected", "_law_cell_at", "_law_mixed", "_law_drawn", "_law_maker", "_law_frac", "_law_told"]
def loose : List PySem.Str := loose0
theorem run (w : World) : HandSHeadRun.RunEq R (PySem.W.view R.prog [31]) hk ob 4000 loose w := by
  intro os
  kernel_rfl
def tabs (K : PySem.W.Frag) : Tb := [((He.cT K ("_law_maker", none)).2, ("_law_maker" : Str) ++ ".<locals>." ++ "<lambda>"), ((He.cT K ("law", none)).2, ("law" : Str) ++ ".<locals>." ++ "<lambda>")]
theorem tabs_uniq {w : World} {h : Heap} {K : PySem.W.Frag} (c : He.SaysX fa fn [] tf ex w h K) : ∀ p ∈ tabs K, ∀ p' ∈ tabs K, p.1 = p'.1 → p.2 = p'.2 := by
  have m := c.more
  unfold ex at m
  simp only [Bool.and_eq_true, decide_eq_true_eq] at m
  obtain ⟨_, n0_1⟩ := m
  intro p hp p' hp' e
  simp only [tabs, List.mem_cons, List.mem_nil_iff, or_false] at hp hp'
  rcases hp with rfl | rfl <;> rcases hp' with rfl | rfl
  · exact rfl
  · exact absurd e n0_1
  · exact absurd e.symm n0_1
  · exact rfl
theorem txt {w : World} {h : Heap} {K : PySem.W.Frag} {mg : Str → Option Value} {base : Heap} (X : K.In h) (G : h.Ns mainGlobals mg) (c : He.SaysX fa fn [] tf ex w h K) (TB : ∀ p ∈ tf, TabB base mg (He.cT K p).1 (He.cT K p).2) : Txt K mg base (tabs K) where
  F_divisor := c.t.d.def_ 0 (d := d_divisor) rfl
  m_divisor := He.glo_ok X G (c.t.d.fact 0 (f := .glo "divisor") rfl)
  F_fraction := c.t.d.def_ 1 (d := d_fraction) rfl
  m_fraction := He.glo_ok X G (c.t.d.fact 1 (f := .glo "fraction") rfl)
  F_power := c.t.d.def_ 2 (d := d_power) rfl
  m_power := He.glo_ok X G (c.t.d.fact 2 (f := .glo "power") rfl)
  F_stands := c.t.d.def_ 3 (d := d_stands) rfl
  m_stands := He.glo_ok X G (c.t.d.fact 3 (f := .glo "stands") rfl)
  F_step := c.t.d.def_ 4 (d := d_step) rfl
  m_step := He.glo_ok X G (c.t.d.fact 4 (f := .glo "step") rfl)
  F_faces_many := c.t.d.def_ 5 (d := d_faces_many) rfl
  m_faces_many := He.glo_ok X G (c.t.d.fact 5 (f := .glo "faces_many") rfl)
  F_face := c.t.d.def_ 6 (d := d_face) rfl
  m_face := He.glo_ok X G (c.t.d.fact 6 (f := .glo "face") rfl)
  F_drawn := c.t.d.def_ 7 (d := d_drawn) rfl
  m_drawn := He.glo_ok X G (c.t.d.fact 7 (f := .glo "drawn") rfl)
  F_size_for := c.t.d.def_ 8 (d := d_size_for) rfl
  m_size_for := He.glo_ok X G (c.t.d.fact 8 (f := .glo "size_for") rfl)
  F_below := c.t.d.def_ 9 (d := d_below) rfl
  m_below := He.glo_ok X G (c.t.d.fact 9 (f := .glo "below") rfl)
  F_mixed := c.t.d.def_ 10 (d := d_mixed) rfl
  m_mixed := He.glo_ok X G (c.t.d.fact 10 (f := .glo "mixed") rfl)
  F_orders := c.t.d.def_ 11 (d := d_orders) rfl
  m_orders := He.glo_ok X G (c.t.d.fact 11 (f := .glo "orders") rfl)
  F_expected := c.t.d.def_ 12 (d := d_expected) rfl
  m_expected := He.glo_ok X G (c.t.d.fact 12 (f := .glo "expected") rfl)
  F_xlaw_cell_at := c.t.d.def_ 13 (d := d_xlaw_cell_at) rfl
  m_xlaw_cell_at := He.glo_ok X G (c.t.d.fact 13 (f := .glo "_law_cell_at") rfl)
  F_xlaw_mixed := c.t.d.def_ 14 (d := d_xlaw_mixed) rfl
  m_xlaw_mixed := He.glo_ok X G (c.t.d.fact 14 (f := .glo "_law_mixed") rfl)
  F_xlaw_drawn := c.t.d.def_ 15 (d := d_xlaw_drawn) rfl
  m_xlaw_drawn := He.glo_ok X G (c.t.d.fact 15 (f := .glo "_law_drawn") rfl)
  F_xlaw_maker := c.t.d.def_ 16 (d := d_xlaw_maker) rfl
  m_xlaw_maker := He.glo_ok X G (c.t.d.fact 16 (f := .glo "_law_maker") rfl)
  F_xlaw_frac := c.t.d.def_ 17 (d := d_xlaw_frac) rfl
  m_xlaw_frac := He.glo_ok X G (c.t.d.fact 17 (f := .glo "_law_frac") rfl)
  F_xlaw_told := c.t.d.def_ 18 (d := d_xlaw_told) rfl
  m_xlaw_told := He.glo_ok X G (c.t.d.fact 18 (f := .glo "_law_told") rfl)
  F_law := c.t.d.def_ 19 (d := d_law) rfl
  m_law := He.glo_ok X G (c.t.d.fact 19 (f := .glo "law") rfl)
  c_BITS := He.str_ok X G (c.t.d.fact 20 (f := .str "BITS" "bits") rfl)
  c_MOST_TRIES := He.int_ok X G (c.t.d.fact 21 (f := .int "MOST_TRIES" 1000) rfl)
  c_SUMS := He.str_ok X G (c.t.d.fact 22 (f := .str "SUMS" "sums") rfl)
  b_ValueError := He.free_ok X G (c.t.d.fact 23 (f := .free "ValueError") rfl)
  b_abs := He.free_ok X G (c.t.d.fact 24 (f := .free "abs") rfl)
  b_dict := He.free_ok X G (c.t.d.fact 25 (f := .free "dict") rfl)
  b_int := He.free_ok X G (c.t.d.fact 26 (f := .free "int") rfl)
  b_isinstance := He.free_ok X G (c.t.d.fact 27 (f := .free "isinstance") rfl)
  b_len := He.free_ok X G (c.t.d.fact 28 (f := .free "len") rfl)
  b_list := He.free_ok X G (c.t.d.fact 29 (f := .free "list") rfl)
  b_min := He.free_ok X G (c.t.d.fact 30 (f := .free "min") rfl)
  b_range := He.free_ok X G (c.t.d.fact 31 (f := .free "range") rfl)
  b_sorted := He.free_ok X G (c.t.d.fact 32 (f := .free "sorted") rfl)
  b_sum := He.free_ok X G (c.t.d.fact 33 (f := .free "sum") rfl)
  b_tuple := He.free_ok X G (c.t.d.fact 34 (f := .free "tuple") rfl)
  ET := ext_of (He.ba c.more).1 (He.glo_ok X G (c.t.d.fact 41 (f := .glo "DrawError") rfl)) (List.forall_mem_cons.mpr ⟨He.glo_ok X G (c.t.d.fact 35 (f := .glo "NoEnd") rfl), (List.forall_mem_cons.mpr ⟨He.glo_ok X G (c.t.d.fact 36 (f := .glo "NoDeed") rfl), (List.forall_mem_cons.mpr ⟨He.glo_ok X G (c.t.d.fact 37 (f := .glo "NoText") rfl), (fun _ h => nomatch h)⟩)⟩)⟩)
  X_NoEnd := exR_of (He.glo_ok X G (c.t.d.fact 35 (f := .glo "NoEnd") rfl)) (c.t.d.fact 38 (f := .exc "NoEnd") rfl)
  X_NoDeed := exR_of (He.glo_ok X G (c.t.d.fact 36 (f := .glo "NoDeed") rfl)) (c.t.d.fact 39 (f := .exc "NoDeed") rfl)
  X_NoText := exR_of (He.glo_ok X G (c.t.d.fact 37 (f := .glo "NoText") rfl)) (c.t.d.fact 40 (f := .exc "NoText") rfl)
  cT_xlaw_maker := ⟨TB _ (by simp [tf]), by simp [tabs], fun p hp e => tabs_uniq c p hp ((He.cT K ("_law_maker", none)).2, ("_law_maker" : Str) ++ ".<locals>." ++ "<lambda>") (by simp [tabs]) e⟩
  cT_law := ⟨TB _ (by simp [tf]), by simp [tabs], fun p hp e => tabs_uniq c p hp ((He.cT K ("law", none)).2, ("law" : Str) ++ ".<locals>." ++ "<lambda>") (by simp [tabs]) e⟩
theorem law_at {w : World} {mg : Str → Option Value} {fa' : Addr} {h : Heap} {K : PySem.W.Frag} (X : K.In h) (G : h.Ns mainGlobals mg) (hmg : mg ("law" : Str) = some (.ref fa')) (c : He.SaysX fa fn [] tf ex w h K) : LamX.LawAtS PySem.Challenge.rw_drawmakers_k53_whole_orders_counted w K CX0 11 63 "script" mg fa' h := by
  obtain ⟨fd, F⟩ := c.t.d.def_ 19 (d := d_law) rfl
  have e := hmg.symm.trans (He.glo_ok X G (c.t.d.fact 19 (f := .glo "law") rfl))
  cases e
  have b := FunD.bindsA (ps := ["script"]) F fun _ _ _ _ _ _ us hl => match us, hl with | [_], _ => rfl
  refine ⟨fd, tf.map (He.cT K), spF K (tabs K) f_law, fun p hp => ?_, fun p hp => ?_, fun p hp => ?_, fun s v => b s [v] rfl, fun H a ns hl hb hH hS => ?_, fun base hK hns hTB => ?_⟩
  · obtain ⟨q, hq, rfl⟩ := List.mem_map.mp hp
    exact c.empty q hq
  · obtain ⟨q, hq, rfl⟩ := List.mem_map.mp hp
    exact c.out q hq
  · obtain ⟨q, hq, rfl⟩ := List.mem_map.mp hp
    exact PySem.W.codeHd_of_K X (c.hd q hq)
  · refine sp_law (fun p hp => ?_) hS (law_true ns hl hb)
    have : p.1 ∈ (tf.map (He.cT K)).map (·.2) := by
      simp only [tabs, List.mem_cons, List.mem_nil_iff, or_false] at hp
      first
        | (rcases hp with rfl | rfl | rfl | rfl <;> simp [tf])
        | (rcases hp with rfl | rfl | rfl <;> simp [tf])
        | (rcases hp with rfl | rfl <;> simp [tf])
        | (subst hp; simp [tf])
        | exact hp.elim
    obtain ⟨q, hq, e⟩ := List.mem_map.mp this
    rw [← e]
    exact hH q hq
  · obtain ⟨f2, fd2, F2, m2, _, _, lk2⟩ := ok_law (P := PySem.Challenge.rw_drawmakers_k53_whole_orders_counted.prog) (w := w) (txt X G c (base := base) fun p hp => hTB _ (List.mem_map.mpr ⟨p, hp, rfl⟩))
    have e2 := m2.symm.trans (He.glo_ok X G (c.t.d.fact 19 (f := .glo "law") rfl))
    cases e2
    rw [← fd_same F lk2]
    exact F2
end Dm
open PySem PySem.W PySem.Calls PyProof.Rows
set_option maxRecDepth 100000 in
set_option maxHeartbeats 0 in
theorem PySem.Challenge.cw_drawmakers_k53_whole_orders_counted_holds : PySem.Challenge.rw_drawmakers_k53_whole_orders_counted.Holds := by
  w_on; o_law
  refine HandSHeadRun.head_any (r := OpenLaw.row PySem.Challenge.rw_drawmakers_k53_whole_orders_counted) (q := view (OpenLaw.row PySem.Challenge.rw_drawmakers_k53_whole_orders_counted).prog [31]) (H := Dm.hk) (ob := Dm.ob) (M := 4000) (loose := Dm.loose) (d := HandSHeadRun.topDef (OpenLaw.row PySem.Challenge.rw_drawmakers_k53_whole_orders_counted).prog 31) (kwd := []) Dm.ob_eq
    (by kernel_rfl) (fun s => by kernel_rfl) Dm.run (by kernel_rfl) (by kernel_rfl) (by kernel_rfl) (by rfl) (by first | assumption | decide +kernel) (by decide +kernel) ⟨rfl, rfl, rfl, rfl, rfl, by decide +kernel⟩ ?hw ?hc
  case hw => w_witness2
  case hc =>
    refine LamX.walk_ofTsE (l := PySem.Challenge.rw_drawmakers_k53_whole_orders_counted) (n := 63) (k := 11) (x := "script") (CX := fun _ => L2.CX0) rfl (by decide) (by kernel_rfl) ⟨rfl, by decide, by decide⟩ ?F (fun _ _ _ _ _ z => z)
    intro w mg fa h Y G hmg0
    obtain ⟨K, KX, c⟩ := Y
    have hmg : mg ("law" : PySem.Str) = some (.ref fa) := by
      have e : (HandSHeadRun.topDef (OpenLaw.row PySem.Challenge.rw_drawmakers_k53_whole_orders_counted).prog 31).name = ("law" : PySem.Str) := by kernel_rfl
      rw [← e]
      exact hmg0
    exact ⟨K, KX, Dm.law_at KX G hmg c⟩
end
