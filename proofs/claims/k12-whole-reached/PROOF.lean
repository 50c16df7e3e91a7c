import PyProof.Rows.All
import Wide.All
import OpenK.AllK
import Wide.FinOn
import KE.KStateDown
import HandS.ForMost
import HandS.Exc
import HandS.TryOnly
import HandS.ExcOwn
import HandS.ExcIs
import PyProof.SeqIndex
import PyProof.SetRoads
import HandS.WordsExc
import HandS.IsInst
import HandS.Style
import HandS.Flow
import HandS.Wide
import HandS.EndBits
import HandS.Defaults
import HandS.Head0
import HandS.Head1
import HandS.Head2
import HandS.HeadEnd
import HandS.HeadHook1
import HandS.HeadHook2
import HandS.Strs
import HandS.Zip
import HandS.Conv
import HandS.TupMul
import HandS.TupAny
import HandS.TupLe
import HandS.SetBool
import KE.KDictDisplayH
import KE.GoesZip
import KE.GoesMore
import PyProof.FactsAll.NoneType
import KE.DataEq
import KE.DataCmp
import KE.DataMinMax
import KE.DataFind
import KE.SortData
import HandS.Sort
import PyProof.Draws
import PyProof.EnumMake
import HandS.Dict
import HandS.SetKeys
import HandS.Deep
import KE.KDictSum
import KE.KDictWalk
import KE.KDictKeyed
import HandS.ExcValue
import PySem.Challenge.RW_swapwords_k12_whole_reached
/-! part Sw0 -/
set_option Elab.async false
set_option linter.all false
set_option maxRecDepth 100000
set_option maxHeartbeats 4000000
namespace Sw
open PySem PySem.Spec L2
mutual
def hashD (w : World) : PyData → Int
  | .none => 4238894112
  | .bool b => PpSet.hB b
  | .int i => hashInt i
  | .str x => hashStr w x
  | .tuple xs => reduceHash (Builtin.Tuple.tupleHashOf (hashAll w xs))
  | .list _ => 0
  | .dict _ => 0
def hashAll (w : World) : List PyData → List Int
  | [] => []
  | x :: xs => hashD w x :: hashAll w xs
end
mutual
def keyN : PyData → Bool
  | .none => true
  | .bool _ => false
  | .int _ => true
  | .str x => PyData.canLay0 (.str x)
  | .tuple xs => keyNs xs
  | .list _ => false
  | .dict _ => false
def keyNs : List PyData → Bool
  | [] => true
  | x :: xs => keyN x && keyNs xs
end
/-- a key of three with a bool behind is one too -/
def keyT : PyData → Bool
  | .tuple [a, b, .bool _] => keyN a && keyN b
  | .tuple [_, _, .int _] => false
  | d => keyN d
def okK (d : PyData) : Prop := keyT d = true ∧ d.depth ≤ 8
/-- the dict at p: its keys, their addresses, its values; ep: how often it has been changed -/
def DicAt (w : World) (p : Addr) (ep : Nat) (xs : List (PyData × Addr × V)) (h : Heap) : Prop :=
  (p == sysModules) = false ∧ xs.length ≤ sizeLine ∧ (xs.map (·.1)).Nodup ∧ ∃ ys : List (PyData × Addr × Value), Paired (fun x y => x.1 = y.1 ∧ x.2.1 = y.2.1 ∧ RelV x.2.2 y.2.2) xs ys ∧
    ∃ o es, h.get? p = some o ∧ o.ExactDict ∧ o.data = .dict es ep ∧ es.toList = ys.map (fun y => (⟨hashD w y.1, .ref y.2.1, y.2.2⟩ : DictEntry))
abbrev DicO (w : World) (p : Addr) (ep : Nat) (xs : List (PyData × Addr × V)) : HO := .ext (DicAt w p ep xs)
/-- d is a key that stands at b -/
def KeyIn (K : PySem.W.Frag) (H : Hp) (d : PyData) (b : Addr) : Prop := okK d ∧ Dp K H (.ref b) d
/-- a value that hangs on no object -/
def FlatV : V → PyData → Prop
  | v, .none => v = .non
  | v, .bool b => v = .bl b
  | v, .int i => v = .int i
  | v, .str x => v = .str x
  | _, _ => False
theorem rd_same {H H' : Hp} {a : Addr} {u : HO} (e : Same H H') (h : Rd H a u) : Rd H' a u := by
  rcases h with h | ⟨o, h⟩
  · exact Or.inl (e a _ h)
  · exact Or.inr ⟨o, e a _ h⟩
theorem sl_same {K : PySem.W.Frag} {H H' : Hp} {a : Addr} {xs : List V} (e : Same H H') (h : SqL K H a xs) : SqL K H' a xs := by
  rcases h with h | h
  · exact Or.inl (rd_same e h)
  · exact Or.inr h
theorem st_same {K : PySem.W.Frag} {H H' : Hp} {a : Addr} {xs : List V} (e : Same H H') (h : SqT K H a xs) : SqT K H' a xs := by
  rcases h with h | h
  · exact Or.inl (rd_same e h)
  · exact Or.inr h
mutual
theorem lp_same {K : PySem.W.Frag} {H H' : Hp} (e : Same H H') : ∀ (d : PyData) (v : V), Dp K H v d → Dp K H' v d
  | .none, _, h => by cases h; exact .non
  | .bool b, _, h => by cases h; exact .bl b
  | .int i, _, h => by cases h; exact .int i
  | .str x, _, h => by cases h; exact .str x
  | .list ds, _, h => by
    cases h with
    | lst hs ha => exact .lst (sl_same e hs) (lps_same e ds _ ha)
  | .tuple ds, _, h => by
    cases h with
    | tup hs ha => exact .tup (st_same e hs) (lps_same e ds _ ha)
  | .dict _, _, h => by cases h
theorem lps_same {K : PySem.W.Frag} {H H' : Hp} (e : Same H H') : ∀ (ds : List PyData) (vs : List V), DpAll K H vs ds → DpAll K H' vs ds
  | [], _, h => by cases h; exact .nil
  | d :: ds, _, h => by
    cases h with
    | cons h1 h2 => exact .cons (lp_same e d _ h1) (lps_same e ds _ h2)
end
theorem key_same {K : PySem.W.Frag} {H H' : Hp} {d : PyData} {b : Addr} (e : Same H H') (h : KeyIn K H d b) : KeyIn K H' d b := ⟨h.1, lp_same e _ _ h.2⟩
/-- the pairs of a dict that is data -/
def PrD (K : PySem.W.Frag) (H : Hp) (kvs : List (PyData × PyData)) (xs : List (PyData × Addr × V)) : Prop := Paired (fun kv x => kv.1 = x.1 ∧ KeyIn K H x.1 x.2.1 ∧ FlatV x.2.2 kv.2) kvs xs
theorem prd_same {K : PySem.W.Frag} {H H' : Hp} {kvs : List (PyData × PyData)} {xs : List (PyData × Addr × V)} (e : Same H H') (h : PrD K H kvs xs) : PrD K H' kvs xs := Paired.mapP h fun _ _ z => ⟨z.1, key_same e z.2.1, z.2.2⟩
/-- how a dict is named among the data -/
def dicD (w : World) (kvs : List (PyData × PyData)) : PyData := .dict ((.list (kvs.map fun kv => PyData.int (hashD w kv.1)), .none) :: kvs)
end Sw
/-! part SwA -/
set_option Elab.async false
set_option linter.all false
set_option maxRecDepth 100000
set_option maxHeartbeats 4000000
namespace Sw
open PySem PySem.Spec L2

/-! ## A. data in the heap -/
/-- how the law's own script is named among the data -/
def scrD (ns : List Int) : PyData := .dict [(.none, .list (ns.map PyData.int))]
/-- how an object that is only named (a caught exception, a def, a class) is named among the data -/
def pinD (a : Addr) : PyData := .dict [(.bool true, .int a)]
/-! data at any depth; lists are lists that the call has made itself, the script apart -/
mutual
inductive Dd (K : PySem.W.Frag) (H : Hp) : V → PyData → Prop
  | non : Dd K H .non .none
  | bl (b : Bool) : Dd K H (.bl b) (.bool b)
  | int (i : Int) : Dd K H (.int i) (.int i)
  | str (x : Str) : Dd K H (.str x) (.str x)
  | lst {a : Addr} {xs : List V} {ds : List PyData} (h : H a = some (.lst xs)) (t : DdAll K H xs ds) : Dd K H (.ref a) (.list ds)
  | tup {a : Addr} {xs : List V} {ds : List PyData} (h : SqT K H a xs) (t : DdAll K H xs ds) : Dd K H (.ref a) (.tuple ds)
  | scr {a : Addr} {ns : List Int} (h : SqL K H a (ns.map V.int)) : Dd K H (.ref a) (scrD ns)
  | ref (a : Addr) : Dd K H (.ref a) (pinD a)
  | dic {w : World} {a : Addr} {ep : Nat} {xs : List (PyData × Addr × V)} {hs : List PyData} {kvs : List (PyData × PyData)} (h : H a = some (DicO w a ep xs)) (e : hs = kvs.map fun kv => PyData.int (hashD w kv.1)) (r : PrD K H kvs xs) : Dd K H (.ref a) (.dict ((.list hs, .none) :: kvs))
inductive DdAll (K : PySem.W.Frag) (H : Hp) : List V → List PyData → Prop
  | nil : DdAll K H [] []
  | cons {v : V} {vs : List V} {d : PyData} {ds : List PyData} (h : Dd K H v d) (t : DdAll K H vs ds) : DdAll K H (v :: vs) (d :: ds)
end
mutual
theorem dp_same {K : PySem.W.Frag} {H H' : Hp} (e : Same H H') : ∀ (d : PyData) (v : V), Dd K H v d → Dd K H' v d
  | .none, _, h => by cases h; exact .non
  | .bool b, _, h => by cases h; exact .bl b
  | .int i, _, h => by cases h; exact .int i
  | .str x, _, h => by cases h; exact .str x
  | .list ds, _, h => by
    cases h with
    | lst hs ha => exact .lst (e _ _ hs) (dps_same e ds _ ha)
  | .tuple ds, _, h => by
    cases h with
    | tup hs ha => exact .tup (st_same e hs) (dps_same e ds _ ha)
  | .dict _, _, h => by
    cases h with
    | scr hs => exact .scr (sl_same e hs)
    | ref a => exact .ref a
    | dic h1 h2 h3 => exact .dic (e _ _ h1) h2 (prd_same e h3)
theorem dps_same {K : PySem.W.Frag} {H H' : Hp} (e : Same H H') : ∀ (ds : List PyData) (vs : List V), DdAll K H vs ds → DdAll K H' vs ds
  | [], _, h => by cases h; exact .nil
  | d :: ds, _, h => by
    cases h with
    | cons h1 h2 => exact .cons (dp_same e d _ h1) (dps_same e ds _ h2)
end
mutual
/-- what holds no script is the library's own data -/
theorem dd_dp {K : PySem.W.Frag} {H : Hp} : ∀ (d : PyData) (v : V), d.canLay0 = true → Dd K H v d → Dp K H v d
  | .none, _, _, h => by cases h; exact .non
  | .bool b, _, _, h => by cases h; exact .bl b
  | .int i, _, _, h => by cases h; exact .int i
  | .str x, _, _, h => by cases h; exact .str x
  | .list ds, _, c, h => by
    cases h with
    | lst hs ha => exact .lst (SqL.of hs) (dds_dp ds _ (by simpa only [PyData.canLay0] using c) ha)
  | .tuple ds, _, c, h => by
    cases h with
    | tup hs ha => exact .tup hs (dds_dp ds _ (by simpa only [PyData.canLay0] using c) ha)
  | .dict _, _, c, _ => by simp [PyData.canLay0] at c
theorem dds_dp {K : PySem.W.Frag} {H : Hp} : ∀ (ds : List PyData) (vs : List V), PyData.canLayAll0 ds = true → DdAll K H vs ds → DpAll K H vs ds
  | [], _, _, h => by cases h; exact .nil
  | d :: ds, _, c, h => by
    cases h with
    | cons h1 h2 =>
      simp only [PyData.canLayAll0, Bool.and_eq_true] at c
      exact .cons (dd_dp d _ c.1 h1) (dds_dp ds _ c.2 h2)
end
theorem dps_len {K : PySem.W.Frag} {H : Hp} : ∀ {ds : List PyData} {vs : List V}, DdAll K H vs ds → vs.length = ds.length
  | [], _, h => by cases h; rfl
  | d :: ds, _, h => by
    cases h with
    | cons h1 h2 => rw [List.length_cons, List.length_cons, dps_len h2]
theorem dps_get {K : PySem.W.Frag} {H : Hp} : ∀ {ds : List PyData} {vs : List V} {i : Nat} {d : PyData}, DdAll K H vs ds → ds[i]? = some d → ∃ v, vs[i]? = some v ∧ Dd K H v d
  | [], _, i, d, h, e => by simp at e
  | x :: ds, _, 0, d, h, e => by
    cases h with
    | cons h1 h2 =>
      have z : x = d := Option.some.inj e
      subst z
      exact ⟨_, rfl, h1⟩
  | x :: ds, _, i + 1, d, h, e => by
    cases h with
    | cons h1 h2 =>
      obtain ⟨v, hv, hd⟩ := dps_get (i := i) (d := d) h2 (by simpa using e)
      exact ⟨v, by simpa using hv, hd⟩
theorem dps_getV {K : PySem.W.Frag} {H : Hp} : ∀ {ds : List PyData} {vs : List V} {i : Nat} {v : V}, DdAll K H vs ds → vs[i]? = some v → ∃ d, ds[i]? = some d ∧ Dd K H v d
  | [], _, i, v, h, e => by cases h; simp at e
  | x :: ds, _, 0, v, h, e => by
    cases h with
    | cons h1 h2 =>
      have z := Option.some.inj e
      subst z
      exact ⟨_, rfl, h1⟩
  | x :: ds, _, i + 1, v, h, e => by
    cases h with
    | cons h1 h2 =>
      obtain ⟨d, hv, hd⟩ := dps_getV (i := i) (v := v) h2 (by simpa using e)
      exact ⟨d, by simpa using hv, hd⟩
theorem dps_app {K : PySem.W.Frag} {H : Hp} : ∀ {ds es : List PyData} {vs us : List V}, DdAll K H vs ds → DdAll K H us es → DdAll K H (vs ++ us) (ds ++ es)
  | [], es, _, us, h, k => by cases h; exact k
  | d :: ds, es, _, us, h, k => by
    cases h with
    | cons h1 h2 => exact .cons h1 (dps_app h2 k)
theorem dps_drop {K : PySem.W.Frag} {H : Hp} : ∀ {ds : List PyData} {vs : List V} (n : Nat), DdAll K H vs ds → DdAll K H (vs.drop n) (ds.drop n)
  | _, _, 0, h => h
  | [], _, n + 1, h => by cases h; exact .nil
  | d :: ds, _, n + 1, h => by
    cases h with
    | cons h1 h2 => exact dps_drop n h2
theorem dps_take {K : PySem.W.Frag} {H : Hp} : ∀ {ds : List PyData} {vs : List V} (n : Nat), DdAll K H vs ds → DdAll K H (vs.take n) (ds.take n)
  | _, _, 0, h => .nil
  | [], _, n + 1, h => by cases h; exact .nil
  | d :: ds, _, n + 1, h => by
    cases h with
    | cons h1 h2 => exact .cons h1 (dps_take n h2)
theorem dps_rev {K : PySem.W.Frag} {H : Hp} : ∀ {ds : List PyData} {vs : List V}, DdAll K H vs ds → DdAll K H vs.reverse ds.reverse
  | [], _, h => by cases h; exact .nil
  | d :: ds, _, h => by
    cases h with
    | cons h1 h2 =>
      rw [List.reverse_cons, List.reverse_cons]
      exact dps_app (dps_rev h2) (.cons h1 .nil)

/-- from (B, H) to (B', H'): B is what is known as data, H all that is tracked -/
structure Step (B H B' H' : Hp) : Prop where
  b : Same B B'
  h : Same H H'
  i : Same B' H'
  f : ∀ p, H p ≠ none → B p = none → B' p = none
theorem Step.refl {B H : Hp} (e : Same B H) : Step B H B H := ⟨Same.refl B, Same.refl H, e, fun _ _ h => h⟩
theorem same_ne {H H' : Hp} (e : Same H H') {p : Addr} (h : H p ≠ none) : H' p ≠ none := fun z => h (Same.free e z)
theorem Step.trans {B H B1 H1 B2 H2 : Hp} (a : Step B H B1 H1) (c : Step B1 H1 B2 H2) : Step B H B2 H2 :=
  ⟨a.b.trans c.b, a.h.trans c.h, c.i, fun p hp hb => c.f p (same_ne a.h hp) (a.f p hp hb)⟩
/-- a new object that is data -/
theorem Step.new {B H : Hp} {p : Addr} {o : HO} (e : Same B H) (hp : H p = none) : Step B H (upd B p o) (upd H p o) where
  b := fun a u h => by rw [upd_ne (ne_of_none h (Same.free e hp))]; exact h
  h := fun a u h => by rw [upd_ne (ne_of_none h hp)]; exact h
  i := fun a u h => by
    by_cases z : a = p
    · subst z; rw [upd_same] at h ⊢; exact h
    · rw [upd_ne z] at h ⊢; exact e a u h
  f := fun q hq hb => by
    have z : q ≠ p := fun z => hq (by rw [z]; exact hp)
    rw [upd_ne z]; exact hb
/-- a new object that is not data (yet) -/
theorem Step.own {B H : Hp} {p : Addr} {o : HO} (e : Same B H) (hp : H p = none) : Step B H B (upd H p o) where
  b := Same.refl B
  h := fun a u h => by rw [upd_ne (ne_of_none h hp)]; exact h
  i := fun a u h => by rw [upd_ne (ne_of_none (e a u h) hp)]; exact e a u h
  f := fun _ _ hb => hb

/-- two parts of one heap, joined -/
def join (B C : Hp) : Hp := fun a => match B a with
  | some o => some o
  | none => C a
theorem join_l {B C : Hp} : Same B (join B C) := fun a o h => by unfold join; rw [h]
theorem join_r {B C H : Hp} (hb : Same B H) (hc : Same C H) : Same C (join B C) := fun a o h => by
  unfold join
  cases e : B a with
  | none => exact h
  | some u =>
    have z := hb a u e
    rw [hc a o h] at z
    exact congrArg some (Option.some.inj z).symm
theorem join_in {B C H : Hp} (hb : Same B H) (hc : Same C H) : Same (join B C) H := fun a o h => by
  unfold join at h
  cases e : B a with
  | none => rw [e] at h; exact hc a o h
  | some u => rw [e] at h; exact Option.some.inj h ▸ hb a u e
theorem join_none {B C : Hp} {a : Addr} (hb : B a = none) (hc : C a = none) : join B C a = none := by
  unfold join; rw [hb]; exact hc
/-- a step from a smaller base is one from a greater base -/
theorem Step.wide {B B1 H B' H' : Hp} (s : Step B H B' H') (e : Same B B1) (e1 : Same B1 H) : Step B1 H (join B1 B') H' ∧ Same B' (join B1 B') := by
  have h1 : Same B1 H' := e1.trans s.h
  exact ⟨⟨join_l, s.h, join_in h1 s.i, fun p hp hb => join_none hb (s.f p hp (Same.free e hb))⟩, join_r h1 s.i⟩

/-! ## B. slots -/
/-- what a slot holds: nothing known; data; a list of the def's own, which it may change; a dict of its own -/
inductive SD where
  | no
  | dt (d : PyData)
  | ls (ds : List PyData)
  | dc (R : PySem.W.Frag → Hp → Addr → HO → Prop)
  | ex (c : Str)
/-- the value that an exception's class is -/
abbrev clsV (K : PySem.W.Frag) (n : Str) : Value := .ref (He.ga K n)
/-- what stands at an own object's address -/
def OwRel (K : PySem.W.Frag) (B : Hp) (p : Addr) : SD → HO → Prop
  | .ls ds, o => ∃ vs, o = .lst vs ∧ DdAll K B vs ds
  | .dc R, o => (∀ B', Same B B' → R K B' p o)
  | _, _ => False
/-- v, got on the way from H to H', where B' is data -/
def VRel (K : PySem.W.Frag) (B' H H' : Hp) (v : V) : SD → Prop
  | .no => True
  | .dt d => Dd K B' v d
  | sd => ∃ p o, v = .ref p ∧ H p = none ∧ H' p = some o ∧ B' p = none ∧ OwRel K B' p sd o
theorem owRel_same {K : PySem.W.Frag} {B B' : Hp} {p : Addr} (e : Same B B') : ∀ {sd : SD} {o : HO}, OwRel K B p sd o → OwRel K B' p sd o
  | .ls ds, o, ⟨vs, h1, h2⟩ => ⟨vs, h1, dps_same e ds vs h2⟩
  | .dc R, o, h => fun B2 e2 => h B2 (e.trans e2)
  | .no, _, h => h.elim
  | .dt _, _, h => h.elim
  | .ex _, _, h => h.elim
theorem VRel.step {K : PySem.W.Frag} {B H0 H B' H' : Hp} {v : V} (s : Step B H B' H') : ∀ {sd : SD}, VRel K B H0 H v sd → VRel K B' H0 H' v sd
  | .no, _ => trivial
  | .dt d, h => dp_same s.b d v h
  | .ls ds, ⟨p, o, h1, h2, h3, h4, h5⟩ => ⟨p, o, h1, h2, s.h p o h3, s.f p (by rw [h3]; exact fun z => nomatch z) h4, owRel_same s.b h5⟩
  | .dc R, ⟨p, o, h1, h2, h3, h4, h5⟩ => ⟨p, o, h1, h2, s.h p o h3, s.f p (by rw [h3]; exact fun z => nomatch z) h4, owRel_same s.b h5⟩
  | .ex _, ⟨_, _, _, _, _, _, h5⟩ => (show False from h5).elim
theorem VRel.since {K : PySem.W.Frag} {B H0 H H' : Hp} {v : V} (e : Same H0 H) : ∀ {sd : SD}, VRel K B H H' v sd → VRel K B H0 H' v sd
  | .no, _ => trivial
  | .dt d, h => h
  | .ls ds, ⟨p, o, h1, h2, h3, h4, h5⟩ => ⟨p, o, h1, Same.free e h2, h3, h4, h5⟩
  | .dc R, ⟨p, o, h1, h2, h3, h4, h5⟩ => ⟨p, o, h1, Same.free e h2, h3, h4, h5⟩
  | .ex _, ⟨_, _, _, _, _, _, h5⟩ => (show False from h5).elim
def SD.owned : SD → Bool
  | .ls _ => true
  | .dc _ => true
  | _ => false
theorem VRel.own {K : PySem.W.Frag} {B H0 H : Hp} {v : V} {sd : SD} (h : VRel K B H0 H v sd) (ho : sd.owned = true) : ∃ p o, v = .ref p ∧ H0 p = none ∧ H p = some o ∧ B p = none ∧ OwRel K B p sd o := by
  cases sd with
  | no => cases ho
  | dt d => cases ho
  | ls ds => exact h
  | dc R => exact h
  | ex c => cases ho
theorem VRel.mk {K : PySem.W.Frag} {B H0 H : Hp} {p : Addr} {o : HO} : ∀ {sd : SD}, H0 p = none → H p = some o → B p = none → OwRel K B p sd o → VRel K B H0 H (.ref p) sd
  | .no, _, _, _, _ => trivial
  | .dt _, _, _, _, h => h.elim
  | .ls _, h1, h2, h3, h4 => ⟨p, o, rfl, h1, h2, h3, h4⟩
  | .dc _, h1, h2, h3, h4 => ⟨p, o, rfl, h1, h2, h3, h4⟩
  | .ex _, _, _, _, h => h.elim
theorem VRel.ex {K : PySem.W.Frag} {B H0 H : Hp} {v : V} {c : Str} (h : VRel K B H0 H v (.ex c)) : False := by
  obtain ⟨_, _, _, _, _, _, z⟩ := h
  exact z
/-- an own list becomes data -/
def SD.frz : SD → SD
  | .ls ds => .dt (.list ds)
  | s => s

/-! ## C. expressions over data -/
abbrev Tau := List (Option PyData)
structure SlD (K : PySem.W.Frag) (B : Hp) (σ : St) (τ : Tau) : Prop where
  len : σ.length = τ.length
  at_ : ∀ (i : Nat) (d : PyData), τ[i]? = some (some d) → ∃ v, σ[i]? = some (some v) ∧ Dd K B v d
theorem SlD.same {K : PySem.W.Frag} {B B' : Hp} {σ : St} {τ : Tau} (e : Same B B') (h : SlD K B σ τ) : SlD K B' σ τ := ⟨h.len, fun i d z => by
  obtain ⟨v, h1, h2⟩ := h.at_ i d z
  exact ⟨v, h1, dp_same e d v h2⟩⟩
def EvX (K : PySem.W.Frag) (te : TE) (τ : Tau) (sd : SD) : Prop := ∀ (σ : St) (B H : Hp), SlD K B σ τ → Same B H → ∀ Q : VK, (∀ v B' H', Step B H B' H' → VRel K B' H H' v sd → Q v H') → te σ H Q
abbrev EvS (K : PySem.W.Frag) (te : TE) (τ : Tau) (d : PyData) : Prop := EvX K te τ (.dt d)
def EvT (K : PySem.W.Frag) (tt : TT) (τ : Tau) (b : Bool) : Prop := ∀ (σ : St) (B H : Hp), SlD K B σ τ → Same B H → ∀ Q : Bool → Hp → Prop, (∀ B' H', Step B H B' H' → Q b H') → tt σ H Q
def VRels (K : PySem.W.Frag) (B' H H' : Hp) : List V → List SD → Prop
  | [], [] => True
  | v :: vs, s :: ss => VRel K B' H H' v s ∧ VRels K B' H H' vs ss
  | _, _ => False
def EvA (K : PySem.W.Frag) (ta : TA) (τ : Tau) (ds : List PyData) : Prop := ∀ (σ : St) (B H : Hp), SlD K B σ τ → Same B H → ∀ Q : List V → Hp → Prop, (∀ vs B' H', Step B H B' H' → DdAll K B' vs ds → Q vs H') → ta σ H Q
def EvO (K : PySem.W.Frag) (to : TO) (τ : Tau) (o : Option Int) : Prop := ∀ (σ : St) (B H : Hp), SlD K B σ τ → Same B H → ∀ Q : Option Int → Hp → Prop, (∀ B' H', Step B H B' H' → Q o H') → to σ H Q
/-- an operation on values, told over data -/
def OpD (K : PySem.W.Frag) (r : R2) (x y : PyData) (sd : SD) : Prop := ∀ (B H : Hp) (v u : V), Same B H → Dd K B v x → Dd K B u y → ∀ Q : VK, (∀ w B' H', Step B H B' H' → VRel K B' H H' w sd → Q w H') → r v u H Q
def UnD (K : PySem.W.Frag) (r : V → Hp → VK → Prop) (x : PyData) (sd : SD) : Prop := ∀ (B H : Hp) (v : V), Same B H → Dd K B v x → ∀ Q : VK, (∀ w B' H', Step B H B' H' → VRel K B' H H' w sd → Q w H') → r v H Q
def CbD (K : PySem.W.Frag) (r : List V → Hp → VK → Prop) (xs : List PyData) (sd : SD) : Prop := ∀ (B H : Hp) (vs : List V), Same B H → DdAll K B vs xs → ∀ Q : VK, (∀ w B' H', Step B H B' H' → VRel K B' H H' w sd → Q w H') → r vs H Q
section
variable {K : PySem.W.Frag} {τ : Tau} {ta tb te : TE} {t u : TT} {x y d : PyData} {sd : SD} {r : R2}
theorem ev_var {i : Nat} (h : τ[i]? = some (some d)) : EvX K (tVar i) τ (.dt d) := fun σ B H hs e Q q => by
  obtain ⟨v, h1, h2⟩ := hs.at_ i d h
  exact ⟨v, h1, q v B H (Step.refl e) h2⟩
theorem ev_none : EvX K (tC .non) τ (.dt .none) := fun σ B H hs e Q q => q _ B H (Step.refl e) .non
theorem ev_bool {b : Bool} : EvX K (tC (.bl b)) τ (.dt (.bool b)) := fun σ B H hs e Q q => q _ B H (Step.refl e) (.bl b)
theorem ev_int {i : Int} : EvX K (tC (.int i)) τ (.dt (.int i)) := fun σ B H hs e Q q => q _ B H (Step.refl e) (.int i)
theorem ev_str {z : Str} : EvX K (tC (.str z)) τ (.dt (.str z)) := fun σ B H hs e Q q => q _ B H (Step.refl e) (.str z)
/-- an own object becomes data -/
theorem Step.frz {B H B' H' : Hp} {p : Addr} {o : HO} (s : Step B H B' H') (h2 : H p = none) (h3 : H' p = some o) (h4 : B' p = none) : Step B H (upd B' p o) H' where
  b := fun a u k => by rw [upd_ne (ne_of_none (s.b a u k) h4)]; exact s.b a u k
  h := s.h
  i := fun a u k => by
    by_cases z : a = p
    · subst z; rw [upd_same] at k; rw [← k]; exact h3
    · rw [upd_ne z] at k; exact s.i a u k
  f := fun q hq hb => by
    have z : q ≠ p := fun z => hq (by rw [z]; exact h2)
    rw [upd_ne z]; exact s.f q hq hb
theorem same_upd {B : Hp} {p : Addr} {o : HO} (h : B p = none) : Same B (upd B p o) := fun a u k => by rw [upd_ne (ne_of_none k h)]; exact k
theorem VRel.frz {B H B' H' : Hp} {v : V} {ds : List PyData} (s : Step B H B' H') (w : VRel K B' H H' v (.ls ds)) : ∃ B2, Step B H B2 H' ∧ Same B' B2 ∧ Dd K B2 v (.list ds) := by
  obtain ⟨p, o, rfl, h2, h3, h4, vs, rfl, h5⟩ := w
  exact ⟨_, s.frz h2 h3 h4, same_upd h4, .lst upd_same (dps_same (same_upd h4) ds vs h5)⟩
/-- an own list as data -/
theorem EvX.frz {ds : List PyData} (h : EvX K te τ (.ls ds)) : EvX K te τ (.dt (.list ds)) := fun σ B H hs e Q q =>
  h σ B H hs e Q fun v B' H' s w => by
    obtain ⟨B2, s2, _, hd⟩ := VRel.frz s w
    exact q v B2 H' s2 hd
/-- in a wider base -/
theorem EvX.at {σ : St} {B H : Hp} {Q : VK} (h : EvX K te τ sd) (hs : SlD K B σ τ) (e : Same B H) (q : ∀ v B' H', Step B H B' H' → VRel K B' H H' v sd → Q v H') : te σ H Q := h σ B H hs e Q q
theorem ev_op (ha : EvS K ta τ x) (hb : EvS K tb τ y) (hr : OpD K r x y sd) : EvX K (tOp r ta tb) τ sd := fun σ B H hs e Q q =>
  ha σ B H hs e _ fun v B1 H1 s1 d1 => hb σ B1 H1 (hs.same s1.b) s1.i _ fun u B2 H2 s2 d2 =>
    hr B2 H2 v u s2.i (dp_same s2.b x v d1) d2 Q fun w B3 H3 s3 d3 => q w B3 H3 ((s1.trans s2).trans s3) (d3.since (s1.h.trans s2.h))
theorem ev_un {r : V → Hp → VK → Prop} (ha : EvS K ta τ x) (hr : UnD K r x sd) : EvX K (tUn r ta) τ sd := fun σ B H hs e Q q =>
  ha σ B H hs e _ fun v B1 H1 s1 d1 => hr B1 H1 v s1.i d1 Q fun w B3 H3 s3 d3 => q w B3 H3 (s1.trans s3) (d3.since s1.h)
theorem ea_nil : EvA K tNil τ [] := fun σ B H hs e Q q => q [] B H (Step.refl e) .nil
theorem ea_cons {tr : TA} {ds : List PyData} (ha : EvS K ta τ x) (hr : EvA K tr τ ds) : EvA K (tCons ta tr) τ (x :: ds) := fun σ B H hs e Q q =>
  ha σ B H hs e _ fun v B1 H1 s1 d1 => hr σ B1 H1 (hs.same s1.b) s1.i _ fun vs B2 H2 s2 d2 => q _ B2 H2 (s1.trans s2) (.cons (dp_same s2.b x v d1) d2)
theorem ev_tup {tr : TA} {ds : List PyData} (h : EvA K tr τ ds) (hl : ds.length ≤ sizeLine) : EvX K (tTup tr) τ (.dt (.tuple ds)) := fun σ B H hs e Q q =>
  h σ B H hs e _ fun vs B1 H1 s1 d1 => ⟨by rw [dps_len d1]; exact hl, fun p hp => q (.ref p) _ _ (s1.trans (Step.new (o := .tup vs) s1.i hp)) (.tup (.inl (.inl upd_same)) (dps_same (same_upd (Same.free s1.i hp)) ds vs d1))⟩
theorem ev_lst {tr : TA} {ds : List PyData} (h : EvA K tr τ ds) (hl : ds.length ≤ sizeLine) : EvX K (tLst tr) τ (.ls ds) := fun σ B H hs e Q q =>
  h σ B H hs e _ fun vs B1 H1 s1 d1 => ⟨by rw [dps_len d1]; exact hl, fun p hp => q (.ref p) _ _ (s1.trans (Step.own s1.i hp)) ⟨p, _, rfl, Same.free s1.h hp, upd_same, Same.free s1.i hp, vs, rfl, d1⟩⟩
theorem ev_cb {r : List V → Hp → VK → Prop} {tr : TA} {ds : List PyData} (h : EvA K tr τ ds) (hr : CbD K r ds sd) : EvX K (tCB r tr) τ sd := fun σ B H hs e Q q =>
  h σ B H hs e _ fun vs B1 H1 s1 d1 => hr B1 H1 vs s1.i d1 Q fun w B3 H3 s3 d3 => q w B3 H3 (s1.trans s3) (d3.since s1.h)
/-! tests -/
theorem et_B {b : Bool} (h : EvS K te τ (.bool b)) : EvT K (tB te) τ b := fun σ B H hs e Q q => h σ B H hs e _ fun v B1 H1 s1 d1 => by
  cases d1
  exact ⟨b, rfl, q B1 H1 s1⟩
theorem et_test {b : Bool} (h : EvS K te τ (.bool b)) : EvT K (tTest te) τ b := fun σ B H hs e Q q => h σ B H hs e _ fun v B1 H1 s1 d1 => by
  cases d1
  exact ⟨b, rfl, q B1 H1 s1⟩
theorem et_not {b : Bool} (h : EvT K t τ b) : EvT K (tNot t) τ (!b) := fun σ B H hs e Q q => h σ B H hs e _ fun B1 H1 s1 => q B1 H1 s1
theorem et_and {a b : Bool} (h1 : EvT K t τ a) (h2 : a = true → EvT K u τ b) : EvT K (tAnd t u) τ (a && b) := fun σ B H hs e Q q => h1 σ B H hs e _ fun B1 H1 s1 => by
  cases a with
  | true =>
    show u σ H1 Q
    exact h2 rfl σ B1 H1 (hs.same s1.b) s1.i Q fun B2 H2 s2 => q B2 H2 (s1.trans s2)
  | false =>
    show Q false H1
    exact q B1 H1 s1
theorem et_or {a b : Bool} (h1 : EvT K t τ a) (h2 : a = false → EvT K u τ b) : EvT K (tOr t u) τ (a || b) := fun σ B H hs e Q q => h1 σ B H hs e _ fun B1 H1 s1 => by
  cases a with
  | true =>
    show Q true H1
    exact q B1 H1 s1
  | false =>
    show u σ H1 Q
    exact h2 rfl σ B1 H1 (hs.same s1.b) s1.i Q fun B2 H2 s2 => q B2 H2 (s1.trans s2)
theorem et_is {a b : Bool} (h : EvT K t τ a) (e : a = b) : EvT K t τ b := e ▸ h
theorem ev_is {d' : PyData} (h : EvS K te τ d) (e : d = d') : EvS K te τ d' := e ▸ h
theorem ev_isL {ds ds' : List PyData} (h : EvX K te τ (.ls ds)) (e : ds = ds') : EvX K te τ (.ls ds') := e ▸ h
theorem ev_andV {a b : Bool} (h1 : EvS K ta τ (.bool a)) (h2 : a = true → EvS K tb τ (.bool b)) : EvX K (tAndV ta tb) τ (.dt (.bool (a && b))) := fun σ B H hs e Q q => h1 σ B H hs e _ fun v B1 H1 s1 d1 => by
  cases d1
  refine ⟨a, rfl, ?_⟩
  cases a with
  | true =>
    show tb σ H1 Q
    exact h2 rfl σ B1 H1 (hs.same s1.b) s1.i Q fun w B2 H2 s2 d2 => q w B2 H2 (s1.trans s2) d2
  | false =>
    show Q (.bl false) H1
    exact q _ B1 H1 s1 (.bl false)
theorem ev_orV {a b : Bool} (h1 : EvS K ta τ (.bool a)) (h2 : a = false → EvS K tb τ (.bool b)) : EvX K (tOrV ta tb) τ (.dt (.bool (a || b))) := fun σ B H hs e Q q => h1 σ B H hs e _ fun v B1 H1 s1 d1 => by
  cases d1
  refine ⟨a, rfl, ?_⟩
  cases a with
  | true =>
    show Q (.bl true) H1
    exact q _ B1 H1 s1 (.bl true)
  | false =>
    show tb σ H1 Q
    exact h2 rfl σ B1 H1 (hs.same s1.b) s1.i Q fun w B2 H2 s2 d2 => q w B2 H2 (s1.trans s2) d2
theorem ev_notV {a : Bool} (h1 : EvS K ta τ (.bool a)) : EvX K (tNotV ta) τ (.dt (.bool (!a))) := fun σ B H hs e Q q => h1 σ B H hs e _ fun v B1 H1 s1 d1 => by
  cases d1
  exact ⟨a, rfl, q _ B1 H1 s1 (.bl (!a))⟩
theorem ev_if {b : Bool} (h : EvT K t τ b) (h1 : b = true → EvX K ta τ sd) (h2 : b = false → EvX K tb τ sd) : EvX K (tIf t ta tb) τ sd := fun σ B H hs e Q q => h σ B H hs e _ fun B1 H1 s1 => by
  cases b with
  | true =>
    show ta σ H1 Q
    exact h1 rfl σ B1 H1 (hs.same s1.b) s1.i Q fun w B2 H2 s2 d2 => q w B2 H2 (s1.trans s2) (d2.since s1.h)
  | false =>
    show tb σ H1 Q
    exact h2 rfl σ B1 H1 (hs.same s1.b) s1.i Q fun w B2 H2 s2 d2 => q w B2 H2 (s1.trans s2) (d2.since s1.h)
/-- a < b < c -/
theorem ev_chain {r r' : R2} {tc : TE} {z : PyData} {a b : Bool} (ha : EvS K ta τ x) (hb : EvS K tb τ y) (hr : OpD K r x y (.dt (.bool a))) (hc : a = true → EvS K tc τ z) (hr' : a = true → OpD K r' y z (.dt (.bool b))) :
    EvX K (tChain r r' ta tb tc) τ (.dt (.bool (a && b))) := fun σ B H hs e Q q =>
  ha σ B H hs e _ fun v B1 H1 s1 d1 => hb σ B1 H1 (hs.same s1.b) s1.i _ fun u B2 H2 s2 d2 =>
    hr B2 H2 v u s2.i (dp_same s2.b x v d1) d2 _ fun w B3 H3 s3 d3 => by
      cases d3
      refine ⟨a, rfl, ?_⟩
      cases a with
      | false => exact q _ B3 H3 ((s1.trans s2).trans s3) (.bl false)
      | true =>
        have hs3 := hs.same ((s1.trans s2).trans s3).b
        exact hc rfl σ B3 H3 hs3 s3.i _ fun w' B4 H4 s4 d4 => hr' rfl B4 H4 u w' s4.i (dp_same (s3.trans s4).b y u d2) d4 Q fun w2 B5 H5 s5 d5 => q w2 B5 H5 ((((s1.trans s2).trans s3).trans s4).trans s5) d5
/-! slices -/
theorem eo_none : EvO K tNoPart τ none := fun σ B H hs e Q q => q B H (Step.refl e)
theorem eo_some {i : Int} (h : EvS K te τ (.int i)) : EvO K (tPart te) τ (some i) := fun σ B H hs e Q q => h σ B H hs e _ fun v B1 H1 s1 d1 => by
  cases d1
  exact ⟨i, rfl, q B1 H1 s1⟩
def SlcD (K : PySem.W.Frag) (r : V → Option Int → Option Int → Hp → VK → Prop) (x : PyData) (lo hi : Option Int) (sd : SD) : Prop := ∀ (B H : Hp) (v : V), Same B H → Dd K B v x → ∀ Q : VK, (∀ w B' H', Step B H B' H' → VRel K B' H H' w sd → Q w H') → r v lo hi H Q
theorem ev_sl {r : V → Option Int → Option Int → Hp → VK → Prop} {tl th : TO} {lo hi : Option Int} (ha : EvS K ta τ x) (hl : EvO K tl τ lo) (hh : EvO K th τ hi) (hr : SlcD K r x lo hi sd) : EvX K (tSl r ta tl th) τ sd := fun σ B H hs e Q q =>
  ha σ B H hs e _ fun v B1 H1 s1 d1 => hl σ B1 H1 (hs.same s1.b) s1.i _ fun B2 H2 s2 => hh σ B2 H2 (hs.same (s1.trans s2).b) s2.i _ fun B3 H3 s3 =>
    hr B3 H3 v s3.i (dp_same (s2.trans s3).b x v d1) Q fun w B4 H4 s4 d4 => q w B4 H4 (((s1.trans s2).trans s3).trans s4) (d4.since ((s1.trans s2).trans s3).h)
end
end Sw
/-! part SwB -/
set_option Elab.async false
set_option linter.all false
set_option maxRecDepth 100000
set_option maxHeartbeats 4000000
namespace Sw
open PySem PySem.Spec L2

/-! ## D. states -/
def SD.dv : SD → Option PyData
  | .dt d => some d
  | _ => none
def SD.av : SD → Option PyData
  | .dt d => some d
  | .ls ds => some (.list ds)
  | _ => none
/-- the slots that hold data; those and the own lists -/
def dv (τ : List SD) : Tau := τ.map SD.dv
def av (τ : List SD) : Tau := τ.map SD.av
def flatD : PyData → Bool
  | .none => true
  | .bool _ => true
  | .int _ => true
  | .str _ => true
  | _ => false
theorem dp_flat {K : PySem.W.Frag} {B B' : Hp} {v : V} {d : PyData} (h : Dd K B v d) (hf : flatD d = true) : Dd K B' v d := by
  cases h with
  | non => exact .non
  | bl b => exact .bl b
  | int i => exact .int i
  | str x => exact .str x
  | lst _ _ => cases hf
  | tup _ _ => cases hf
  | scr _ => cases hf
  | ref _ => cases hf
  | dic _ _ _ => cases hf
structure StB (K : PySem.W.Frag) (B0 H0 B : Hp) (τ : List SD) (σ : St) (H : Hp) : Prop where
  st : Step B0 H0 B H
  len : σ.length = τ.length
  sl : ∀ (i : Nat) (sd : SD), τ[i]? = some sd → sd = .no ∨ ∃ v, σ[i]? = some (some v) ∧ VRel K B H0 H v sd
  ap : ∀ (i j : Nat) (si sj : SD) (p : Addr), i ≠ j → τ[i]? = some si → τ[j]? = some sj → si.owned = true → sj.owned = true → σ[i]? = some (some (.ref p)) → σ[j]? = some (some (.ref p)) → False
def StOk (K : PySem.W.Frag) (B0 H0 : Hp) (τ : List SD) (σ : St) (H : Hp) : Prop := ∃ B, StB K B0 H0 B τ σ H
section
variable {K : PySem.W.Frag} {B0 H0 B H B' H' : Hp} {τ : List SD} {σ : St}
theorem StB.step (S : StB K B0 H0 B τ σ H) (s : Step B H B' H') : StB K B0 H0 B' τ σ H' where
  st := S.st.trans s
  len := S.len
  sl := fun i sd h => by
    rcases S.sl i sd h with z | ⟨v, h1, h2⟩
    · exact .inl z
    · exact .inr ⟨v, h1, h2.step s⟩
  ap := S.ap
theorem StB.slD (S : StB K B0 H0 B τ σ H) : SlD K B σ (dv τ) := ⟨by rw [S.len]; unfold dv; rw [List.length_map], fun i d h => by
  unfold dv at h
  rw [List.getElem?_map] at h
  cases e : τ[i]? with
  | none => rw [e] at h; cases h
  | some sd =>
    rw [e] at h
    have h2 : sd.dv = some d := Option.some.inj h
    cases sd with
    | dt d' =>
      cases h2
      rcases S.sl i _ e with z | ⟨v, h3, h4⟩
      · cases z
      · exact ⟨v, h3, h4⟩
    | no => cases h2
    | ls ds => cases h2
    | dc R => cases h2
    | ex c => cases h2⟩
/-- the base with the own lists -/
noncomputable def plus (B : Hp) (τ : List SD) (σ : St) (H : Hp) : Hp := fun a =>
  open Classical in if (∃ (i : Nat) (ds : List PyData), τ[i]? = some (SD.ls ds) ∧ σ[i]? = some (some (V.ref a))) then H a else B a
theorem plus_in (e : Same B H) : Same (plus B τ σ H) H := fun a o h => by
  unfold plus at h
  split at h
  · exact h
  · exact e a o h
theorem plus_of (e : Same B H) : Same B (plus B τ σ H) := fun a o h => by
  unfold plus
  split
  · exact e a o h
  · exact h
theorem StB.slA (S : StB K B0 H0 B τ σ H) : SlD K (plus B τ σ H) σ (av τ) := ⟨by rw [S.len]; unfold av; rw [List.length_map], fun i d h => by
  unfold av at h
  rw [List.getElem?_map] at h
  cases e : τ[i]? with
  | none => rw [e] at h; cases h
  | some sd =>
    rw [e] at h
    have h2 : sd.av = some d := Option.some.inj h
    cases sd with
    | dt d' =>
      cases h2
      rcases S.sl i _ e with z | ⟨v, h3, h4⟩
      · cases z
      · exact ⟨v, h3, dp_same (plus_of S.st.i) _ _ h4⟩
    | no => cases h2
    | ls ds =>
      cases h2
      rcases S.sl i _ e with z | ⟨v, h3, h4⟩
      · cases z
      · obtain ⟨p, o, rfl, g1, g2, g3, vs, rfl, g4⟩ := h4
        refine ⟨_, h3, .lst ?_ (dps_same (plus_of S.st.i) _ _ g4)⟩
        unfold plus
        rw [if_pos ⟨i, ds, e, h3⟩]
        exact g2
    | dc R => cases h2
    | ex c => cases h2⟩
theorem StB.later (S : StB K B0 H0 B τ σ H) (e : Same H H') : StB K B0 H0 B τ σ H' := S.step ⟨Same.refl _, e, S.st.i.trans e, fun _ _ h => h⟩
theorem StB.ev {te : TE} {sd : SD} {Q : VK} (S : StB K B0 H0 B τ σ H) (h : EvX K te (dv τ) sd) (q : ∀ v B' H', StB K B0 H0 B' τ σ H' → Same H H' → VRel K B' H H' v sd → Q v H') : te σ H Q :=
  h σ B H S.slD S.st.i Q fun v B' H' s w => q v B' H' (S.step s) s.h w
theorem StB.evF {te : TE} {d : PyData} {Q : VK} (S : StB K B0 H0 B τ σ H) (h : EvS K te (av τ) d) (hf : flatD d = true) (q : ∀ v H', StB K B0 H0 B τ σ H' → Same H H' → (∀ B, Dd K B v d) → Q v H') : te σ H Q :=
  h σ _ H S.slA (plus_in S.st.i) Q fun v B' H' s w => q v H' (S.later s.h) s.h fun B => dp_flat w hf
theorem StB.evT {tt : TT} {b : Bool} {Q : Bool → Hp → Prop} (S : StB K B0 H0 B τ σ H) (h : EvT K tt (av τ) b) (q : ∀ H', StB K B0 H0 B τ σ H' → Same H H' → Q b H') : tt σ H Q :=
  h σ _ H S.slA (plus_in S.st.i) Q fun B' H' s => q H' (S.later s.h) s.h
theorem StB.evA {ta : TA} {ds : List PyData} {Q : List V → Hp → Prop} (S : StB K B0 H0 B τ σ H) (h : EvA K ta (dv τ) ds) (q : ∀ vs B' H', StB K B0 H0 B' τ σ H' → Same H H' → DdAll K B' vs ds → Q vs H') : ta σ H Q :=
  h σ B H S.slD S.st.i Q fun v B' H' s w => q v B' H' (S.step s) s.h w
theorem set_get {α : Type} {l : List α} {i j : Nat} {x y : α} (h : (l.set i x)[j]? = some y) : (j = i ∧ y = x ∧ i < l.length) ∨ (j ≠ i ∧ l[j]? = some y) := by
  by_cases e : i = j
  · subst e
    by_cases hl : i < l.length
    · rw [List.getElem?_set_self hl] at h
      exact .inl ⟨rfl, (Option.some.inj h).symm, hl⟩
    · rw [List.getElem?_eq_none (by rw [List.length_set]; omega)] at h
      cases h
  · rw [List.getElem?_set_ne e] at h
    exact .inr ⟨fun z => e z.symm, h⟩
/-- v is stored in the slot i -/
theorem StB.put {i : Nat} {v : V} {sd : SD} (S : StB K B0 H0 B τ σ H) (hv : VRel K B H0 H v sd)
    (ha : ∀ (j : Nat) (sj : SD) (p : Addr), j ≠ i → τ[j]? = some sj → sj.owned = true → sd.owned = true → v = .ref p → σ[j]? = some (some (.ref p)) → False) : StB K B0 H0 B (τ.set i sd) (σ.set i (some v)) H where
  st := S.st
  len := by rw [List.length_set, List.length_set]; exact S.len
  sl := fun j sj h => by
    rcases set_get h with ⟨rfl, rfl, hl⟩ | ⟨hj, h⟩
    · exact .inr ⟨v, by rw [List.getElem?_set_self (by rw [S.len]; exact hl)], hv⟩
    · rcases S.sl j sj h with z | ⟨w, h1, h2⟩
      · exact .inl z
      · exact .inr ⟨w, by rw [List.getElem?_set_ne (fun z => hj z.symm)]; exact h1, h2⟩
  ap := fun j k sj sk p hjk h1 h2 o1 o2 e1 e2 => by
    rcases set_get h1 with ⟨rfl, rfl, hl⟩ | ⟨hj, g1⟩
    · rcases set_get h2 with ⟨rfl, _, _⟩ | ⟨hk, g2⟩
      · exact hjk rfl
      · rw [List.getElem?_set_self (by rw [S.len]; exact hl)] at e1
        rw [List.getElem?_set_ne (fun z => hk z.symm)] at e2
        exact ha k sk p hk g2 o2 o1 (Option.some.inj (Option.some.inj e1)) e2
    · rw [List.getElem?_set_ne (fun z => hj z.symm)] at e1
      rcases set_get h2 with ⟨rfl, rfl, hl⟩ | ⟨hk, g2⟩
      · rw [List.getElem?_set_self (by rw [S.len]; exact hl)] at e2
        exact ha j sj p hj g1 o1 o2 (Option.some.inj (Option.some.inj e2)) e1
      · rw [List.getElem?_set_ne (fun z => hk z.symm)] at e2
        exact S.ap j k sj sk p hjk g1 g2 o1 o2 e1 e2
/-- v, got on the way from an earlier heap H1 to H, is stored: it is new against all own objects that stood at H1 -/
theorem StB.putN {i : Nat} {v : V} {sd : SD} {B1 H1 : Hp} (S : StB K B0 H0 B τ σ H) (S1 : StB K B0 H0 B1 τ σ H1) (hv : VRel K B H1 H v sd) : StB K B0 H0 B (τ.set i sd) (σ.set i (some v)) H := by
  refine S.put (hv.since S1.st.h) fun j sj p hj h1 o1 o2 ev e1 => ?_
  obtain ⟨p2, o, e2, n, _⟩ := hv.own o2
  rw [ev] at e2
  cases e2
  rcases S1.sl j sj h1 with z | ⟨w, h3, h4⟩
  · rw [z] at o1; cases o1
  · rw [e1] at h3
    cases h3
    obtain ⟨p3, o3, e3, _, z, _⟩ := h4.own o1
    cases e3
    rw [n] at z
    cases z
theorem StB.putD {i : Nat} {v : V} {d : PyData} (S : StB K B0 H0 B τ σ H) (hv : Dd K B v d) : StB K B0 H0 B (τ.set i (.dt d)) (σ.set i (some v)) H :=
  S.put hv fun _ _ _ _ _ _ z => by cases z
/-- the own object in the slot i changes -/
theorem StB.mut {i : Nat} {sd sd' : SD} {p : Addr} {o' : HO} (S : StB K B0 H0 B τ σ H) (hi : τ[i]? = some sd) (ho : sd.owned = true) (hp : σ[i]? = some (some (.ref p))) (ho' : sd'.owned = true) (hr : OwRel K B p sd' o') : StB K B0 H0 B (τ.set i sd') σ (upd H p o') := by
  have hil : i < τ.length := (List.getElem?_eq_some_iff.mp hi).1
  obtain ⟨g1, g2⟩ : H0 p = none ∧ B p = none := by
    rcases S.sl i sd hi with z | ⟨v, h1, h2⟩
    · rw [z] at ho; cases ho
    · rw [hp] at h1; cases h1
      obtain ⟨p2, o, e2, n, _, n2, _⟩ := h2.own ho
      cases e2
      exact ⟨n, n2⟩
  refine ⟨⟨S.st.b, fun a o h => by rw [upd_ne (ne_of_none h g1)]; exact S.st.h a o h, fun a o h => by rw [upd_ne (ne_of_none h g2)]; exact S.st.i a o h, S.st.f⟩, by rw [List.length_set]; exact S.len, fun j sj h => ?_, fun j k sj sk q hjk h1 h2 o1 o2 e1 e2 => ?_⟩
  · rcases set_get h with ⟨rfl, rfl, hl⟩ | ⟨hj, h⟩
    · exact .inr ⟨_, hp, VRel.mk g1 upd_same g2 hr⟩
    · rcases S.sl j sj h with z | ⟨v, h1, h2⟩
      · exact .inl z
      · refine .inr ⟨v, h1, ?_⟩
        cases hs : sj.owned with
        | false =>
          cases sj with
          | no => trivial
          | dt d => exact h2
          | ls ds => cases hs
          | dc R => cases hs
          | ex c => exact (VRel.ex h2).elim
        | true =>
          obtain ⟨p2, o, rfl, n, h3, n2, h4⟩ := h2.own hs
          have hne : p2 ≠ p := fun z => S.ap j i sj sd p hj h hi hs ho (by rw [h1, z]) hp
          exact VRel.mk n (by rw [upd_ne hne]; exact h3) n2 h4
  · have aux : ∀ {m : Nat} {sm : SD}, (τ.set i sd')[m]? = some sm → sm.owned = true → ∃ s0, τ[m]? = some s0 ∧ s0.owned = true := fun {m sm} h om => by
      rcases set_get h with ⟨rfl, rfl, _⟩ | ⟨_, h⟩
      · exact ⟨sd, hi, ho⟩
      · exact ⟨sm, h, om⟩
    obtain ⟨s1, z1, w1⟩ := aux h1 o1
    obtain ⟨s2, z2, w2⟩ := aux h2 o2
    exact S.ap j k s1 s2 q hjk z1 z2 w1 w2 e1 e2
/-- the own list in the slot i becomes data -/
theorem StB.frz {i : Nat} {ds : List PyData} (S : StB K B0 H0 B τ σ H) (hi : τ[i]? = some (.ls ds)) : ∃ B', StB K B0 H0 B' (τ.set i (.dt (.list ds))) σ H ∧ Same B B' := by
  have hil : i < τ.length := (List.getElem?_eq_some_iff.mp hi).1
  rcases S.sl i _ hi with z | ⟨v, h1, h2⟩
  · cases z
  obtain ⟨p, o, rfl, n, h3, n2, vs, rfl, h4⟩ := h2
  have sb : Same B (upd B p (.lst vs)) := same_upd n2
  refine ⟨upd B p (.lst vs), ⟨S.st.frz n h3 n2, by rw [List.length_set]; exact S.len, fun j sj h => ?_, fun j k sj sk q hjk h1' h2' o1 o2 e1 e2 => ?_⟩, sb⟩
  · rcases set_get h with ⟨rfl, rfl, hl⟩ | ⟨hj, h⟩
    · exact .inr ⟨_, h1, .lst upd_same (dps_same sb _ _ h4)⟩
    · rcases S.sl j sj h with z | ⟨v, g1, g2⟩
      · exact .inl z
      · refine .inr ⟨v, g1, ?_⟩
        cases hs : sj.owned with
        | false =>
          cases sj with
          | no => trivial
          | dt d => exact dp_same sb _ _ g2
          | ls ds => cases hs
          | dc R => cases hs
          | ex c => exact (VRel.ex g2).elim
        | true =>
          obtain ⟨p2, o, rfl, m, g3, m2, g4⟩ := g2.own hs
          have hne : p2 ≠ p := fun z => S.ap j i sj _ p hj h hi hs rfl (by rw [g1, z]) h1
          exact VRel.mk m g3 (by rw [upd_ne hne]; exact m2) (owRel_same sb g4)
  · rcases set_get h1' with ⟨rfl, rfl, _⟩ | ⟨hj, z1⟩
    · cases o1
    · rcases set_get h2' with ⟨rfl, rfl, _⟩ | ⟨hk, z2⟩
      · cases o2
      · exact S.ap j k sj sk q hjk z1 z2 o1 o2 e1 e2
/-- from here on: the base B, and all that is not an own object of this state -/
noncomputable def outH (τ : List SD) (σ : St) (H : Hp) : Hp := fun a =>
  open Classical in if (∃ (i : Nat) (sd : SD), τ[i]? = some sd ∧ sd.owned = true ∧ σ[i]? = some (some (V.ref a))) then none else H a
theorem StB.rebase (S : StB K B0 H0 B τ σ H) : ∃ H1, StB K B H1 B τ σ H ∧ Same H0 H1 ∧ ∀ B' H', Step B H1 B' H' → Step B0 H0 B' H' := by
  have hin : Same (outH τ σ H) H := fun a o h => by
    unfold outH at h
    split at h
    · cases h
    · exact h
  have own : ∀ (i : Nat) (sd : SD) (p : Addr), τ[i]? = some sd → sd.owned = true → σ[i]? = some (some (V.ref p)) → H0 p = none ∧ B p = none := fun i sd p h ho hp => by
    rcases S.sl i sd h with z | ⟨v, h1, h2⟩
    · rw [z] at ho; cases ho
    · rw [hp] at h1; cases h1
      obtain ⟨p2, o, e2, n, _, n2, _⟩ := h2.own ho
      cases e2
      exact ⟨n, n2⟩
  have h0 : Same H0 (outH τ σ H) := fun a o h => by
    unfold outH
    split
    · rename_i hx
      obtain ⟨i, sd, h1, h2, h3⟩ := hx
      rw [(own i sd a h1 h2 h3).1] at h
      cases h
    · exact S.st.h a o h
  refine ⟨outH τ σ H, ⟨⟨Same.refl B, hin, S.st.i, fun _ _ h => h⟩, S.len, fun i sd h => ?_, S.ap⟩, h0, fun B' H' s => ⟨S.st.b.trans s.b, h0.trans s.h, s.i, fun p hp hb => s.f p (same_ne h0 hp) (S.st.f p hp hb)⟩⟩
  rcases S.sl i sd h with z | ⟨v, h1, h2⟩
  · exact .inl z
  · refine .inr ⟨v, h1, ?_⟩
    cases hs : sd.owned with
    | false =>
      cases sd with
      | no => trivial
      | dt d => exact h2
      | ls ds => cases hs
      | dc R => cases hs
      | ex c => exact (VRel.ex h2).elim
    | true =>
      obtain ⟨p, o, rfl, n, h3, n2, h4⟩ := h2.own hs
      refine VRel.mk ?_ h3 n2 h4
      unfold outH
      rw [if_pos ⟨i, sd, h, hs, h1⟩]
/-- and back -/
theorem StB.back {H1 : Hp} {B1 : Hp} {τ' : List SD} {σ' : St} (e : Same H0 H1) (hb : ∀ B' H', Step B1 H1 B' H' → Step B0 H0 B' H') (S' : StB K B1 H1 B' τ' σ' H') : StB K B0 H0 B' τ' σ' H' :=
  ⟨hb _ _ S'.st, S'.len, fun i sd h => by
    rcases S'.sl i sd h with z | ⟨v, h1, h2⟩
    · exact .inl z
    · exact .inr ⟨v, h1, h2.since e⟩, S'.ap⟩
end

/-! ## E. statements -/
structure DEnds where
  nx : List SD → Prop
  rt : SD → Prop
  bk : List SD → Prop := fun _ => False
  ct : List SD → Prop := fun _ => False
  W : WX := fun _ _ _ _ => False
  ex : Str → List SD → Prop := fun _ _ => False
structure Sat (K : PySem.W.Frag) (B0 H0 : Hp) (E : DEnds) (D : Ends) : Prop where
  nx : ∀ τ σ H, E.nx τ → StOk K B0 H0 τ σ H → D.nx σ H
  rt : ∀ sd v B' H', E.rt sd → Step B0 H0 B' H' → VRel K B' H0 H' v sd → D.rt v H'
  bk : ∀ τ σ H, E.bk τ → StOk K B0 H0 τ σ H → D.bk σ H
  ct : ∀ τ σ H, E.ct τ → StOk K B0 H0 τ σ H → D.ct σ H
  ex : ∀ c τ σ H, E.ex c τ → StOk K B0 H0 τ σ H → E.W (clsV K c) none σ H
def WS (K : PySem.W.Frag) (ts : TS) (τ : List SD) (E : DEnds) : Prop := ∀ (B0 H0 : Hp) (D : Ends) (σ : St) (H : Hp), StOk K B0 H0 τ σ H → Sat K B0 H0 E D → ts D σ H
section
variable {K : PySem.W.Frag} {τ τ' : List SD} {E : DEnds} {te ta tb tc : TE} {t1 t2 ts : TS} {tt : TT} {sd s1 s2 s3 : SD} {d : PyData} {i j k : Nat} {b : Bool}
theorem ws_seq (h : WS K t1 τ { E with nx := fun τ' => WS K t2 τ' E }) : WS K (tSeq t1 t2) τ E := fun B0 H0 D σ H S A =>
  h B0 H0 { D with nx := t2 D } σ H S ⟨fun τ' σ' H' w S' => w B0 H0 D σ' H' S' A, A.rt, A.bk, A.ct, A.ex⟩
theorem ws_next (h : E.nx τ) : WS K tNext τ E := fun B0 H0 D σ H S A => A.nx τ σ H h S
theorem ws_brk (h : E.bk τ) : WS K tBreak τ E := fun B0 H0 D σ H S A => A.bk τ σ H h S
theorem ws_cont (h : E.ct τ) : WS K tCont τ E := fun B0 H0 D σ H S A => A.ct τ σ H h S
theorem ws_is (h : WS K ts τ E) (e : τ = τ') : WS K ts τ' E := e ▸ h
theorem ws_set (h : EvX K te (dv τ) sd) (k : E.nx (τ.set i sd)) : WS K (tAsg te (gName i)) τ E := fun B0 H0 D σ H ⟨B, S⟩ A =>
  S.ev h fun v B' H' S' _ w => A.nx _ _ _ k ⟨B', S'.putN S w⟩
theorem ws_setF (h : EvS K te (av τ) d) (hf : flatD d = true) (k : E.nx (τ.set i (.dt d))) : WS K (tAsg te (gName i)) τ E := fun B0 H0 D σ H ⟨B, S⟩ A =>
  S.evF h hf fun v H' S' _ w => A.nx _ _ _ k ⟨B, S'.putD (w B)⟩
theorem ws_frz {ds : List PyData} (i : Nat) (hi : τ[i]? = some (.ls ds)) (k : WS K ts (τ.set i (.dt (.list ds))) E) : WS K ts τ E := fun B0 H0 D σ H ⟨B, S⟩ A => by
  obtain ⟨B', S', _⟩ := S.frz hi
  exact k B0 H0 D σ H ⟨B', S'⟩ A
/-- targets -/
def TgD (K : PySem.W.Frag) (g : TG) (d : PyData) (τ τ' : List SD) : Prop := ∀ (B0 H0 B : Hp) (σ : St) (H : Hp) (v : V) (Q : St → Hp → Prop), StB K B0 H0 B τ σ H → Dd K B v d → (∀ σ', StB K B0 H0 B τ' σ' H → Q σ' H) → g v σ H Q
def TgsD (K : PySem.W.Frag) (g : TGs) (ds : List PyData) (τ τ' : List SD) : Prop := ∀ (B0 H0 B : Hp) (σ : St) (H : Hp) (vs : List V) (Q : St → Hp → Prop), StB K B0 H0 B τ σ H → DdAll K B vs ds → (∀ σ', StB K B0 H0 B τ' σ' H → Q σ' H) → g vs σ H Q
theorem tg_name : TgD K (gName i) d τ (τ.set i (.dt d)) := fun B0 H0 B σ H v Q S hv q => q _ (S.putD hv)
theorem tgs_nil : TgsD K gNil [] τ τ := fun B0 H0 B σ H vs Q S hv q => by cases hv; exact ⟨rfl, q σ S⟩
theorem tgs_cons {g : TG} {gs : TGs} {ds : List PyData} {τ1 : List SD} (h1 : TgD K g d τ τ1) (h2 : TgsD K gs ds τ1 τ') : TgsD K (gCons g gs) (d :: ds) τ τ' := fun B0 H0 B σ H vs Q S hv q => by
  cases hv with
  | cons hd hds => exact ⟨_, _, rfl, h1 B0 H0 B σ H _ _ S hd fun σ' S' => h2 B0 H0 B σ' H _ Q S' hds q⟩
theorem tg_tup {gs : TGs} {ds : List PyData} {n : Nat} (h : TgsD K gs ds τ τ') (hn : ds.length = n) : TgD K (gTup K n gs) (.tuple ds) τ τ' := fun B0 H0 B σ H v Q S hv q => by
  cases hv with
  | tup hs ha => exact ⟨_, _, rfl, st_same S.st.i hs, by rw [dps_len ha]; exact hn, h B0 H0 B σ H _ Q S ha q⟩
theorem ws_asg {g : TG} (h : EvS K te (dv τ) d) (ht : TgD K g d τ τ') (k : E.nx τ') : WS K (tAsg te g) τ E := fun B0 H0 D σ H ⟨B, S⟩ A =>
  S.ev h fun v B' H' S' _ w => ht B0 H0 B' σ H' v _ S' w fun σ' S2 => A.nx _ _ _ k ⟨B', S2⟩
/-- a, b = x, y -/
theorem ws_par (h1 : EvX K ta (dv τ) s1) (h2 : EvX K tb (dv τ) s2) (k : E.nx ((τ.set i s1).set j s2)) : WS K (tPar i j (tCons ta (tCons tb tNil))) τ E := fun B0 H0 D σ H ⟨B, S⟩ A =>
  S.ev h1 fun v B1 H1 S1 e1 w1 => h2 σ B1 H1 S1.slD S1.st.i _ fun u B2 H2 st2 w2 => ⟨v, u, rfl, A.nx _ _ _ k (by
    have S2 := S1.step st2
    have T1 : StB K B0 H0 B1 (τ.set i s1) (σ.set i (some v)) H1 := S1.putN S w1
    exact ⟨B2, (T1.step st2).putN T1 w2⟩)⟩
theorem ws_if (h : EvT K tt (av τ) b) (h1 : b = true → WS K t1 τ E) (h2 : b = false → WS K t2 τ E) : WS K (tIfS tt t1 t2) τ E := fun B0 H0 D σ H ⟨B, S⟩ A =>
  S.evT h fun H' S' _ => by
    cases b with
    | true => exact h1 rfl B0 H0 D σ H' ⟨B, S'⟩ A
    | false => exact h2 rfl B0 H0 D σ H' ⟨B, S'⟩ A
theorem ws_while (I : Nat → List SD → Prop) (m0 : Nat) (h0 : I m0 τ)
    (hs : ∀ m τ', I m τ' → ∃ b, EvT K tt (av τ') b ∧ (b = true → WS K ts τ' { E with nx := fun τ2 => ∃ m', m' < m ∧ I m' τ2, ct := fun τ2 => ∃ m', m' < m ∧ I m' τ2, bk := E.nx }) ∧ (b = false → E.nx τ')) : WS K (tWhile tt ts) τ E := fun B0 H0 D σ H S A => by
  refine ⟨fun m σ' H' => ∃ τ', I m τ' ∧ StOk K B0 H0 τ' σ' H', ⟨m0, τ, h0, S⟩, ?_⟩
  rintro m σ' H' ⟨τ', hI, B, S'⟩
  obtain ⟨b, hb, h1, h2⟩ := hs m τ' hI
  refine S'.evT hb fun H2 S2 _ => ?_
  cases b with
  | true =>
    refine ⟨fun σ2 H2 => ∃ m', m' < m ∧ ∃ τ2, I m' τ2 ∧ StOk K B0 H0 τ2 σ2 H2, fun _ _ z => z, ?_⟩
    exact h1 rfl B0 H0 _ σ' H2 ⟨B, S2⟩ ⟨fun τ2 σ2 H3 ⟨m', hm, hI2⟩ S3 => ⟨m', hm, τ2, hI2, S3⟩, A.rt, A.nx, fun τ2 σ2 H3 ⟨m', hm, hI2⟩ S3 => ⟨m', hm, τ2, hI2, S3⟩, A.ex⟩
  | false => exact A.nx _ _ _ (h2 rfl) ⟨B, S2⟩
theorem ws_ret (h : EvX K te (dv τ) sd) (k : E.rt sd) : WS K (tRet te) τ E := fun B0 H0 D σ H ⟨B, S⟩ A =>
  S.ev h fun v B' H' S' _ w => A.rt _ v B' H' k S'.st (w.since S.st.h)
theorem ws_retF (h : EvS K te (av τ) d) (hf : flatD d = true) (k : E.rt (.dt d)) : WS K (tRet te) τ E := fun B0 H0 D σ H ⟨B, S⟩ A =>
  S.evF h hf fun v H' S' _ w => A.rt _ v B H' k S'.st (w B)
theorem ws_retV (hi : τ[i]? = some sd) (hn : sd ≠ .no) (k : E.rt sd) : WS K (tRet (tVar i)) τ E := fun B0 H0 D σ H ⟨B, S⟩ A => by
  rcases S.sl i sd hi with z | ⟨v, h1, h2⟩
  · exact absurd z hn
  · exact ⟨v, h1, A.rt _ v B H k S.st h2⟩
theorem ws_retN (k : E.rt (.dt .none)) : WS K tRetN τ E := fun B0 H0 D σ H ⟨B, S⟩ A => A.rt _ .non B H k S.st .non
theorem ws_drop (h : EvX K te (dv τ) sd) (k : E.nx τ) : WS K (tDrop te) τ E := fun B0 H0 D σ H ⟨B, S⟩ A =>
  S.ev h fun v B' H' S' _ w => A.nx _ _ _ k ⟨B', S'⟩
theorem ws_append {ds : List PyData} (hi : τ[i]? = some (.ls ds)) (h : EvS K te (dv τ) d) (hz : ds.length < sizeLine) (k : E.nx (τ.set i (.ls (ds ++ [d])))) :
    WS K (tDrop (tBM K "list" rAppend (tVar i) (tCons te tNil))) τ E := fun B0 H0 D σ H ⟨B, S⟩ A => by
  rcases S.sl i _ hi with z | ⟨v, h1, p, o, rfl, n, h3, n2, vs, rfl, h4⟩
  · cases z
  refine ⟨.ref p, h1, .inl ⟨rfl, vs, SqL.of h3⟩, S.ev h fun v B' H' S' e w => ?_⟩
  rcases S'.sl i _ hi with z | ⟨v', g1, p', o', rfl, m, g3, m2, vs', rfl, g4⟩
  · cases z
  rw [h1] at g1
  cases g1
  exact ⟨p, vs', v, rfl, rfl, g3, by rw [dps_len g4]; exact hz, A.nx _ _ _ k ⟨B', S'.mut hi rfl h1 rfl ⟨_, rfl, dps_app g4 (.cons w .nil)⟩⟩⟩
/-! exceptions: raise C(..); an expression that raises c -/
def tRaise (K : PySem.W.Frag) (W : WX) (c : Str) : TS := fun _ σ H => W (clsV K c) none σ H
theorem ws_raise {c : Str} {W : WX} (hW : E.W = W) (k : E.ex c τ) : WS K (tRaise K W c) τ E := fun B0 H0 D σ H S A => by
  subst hW
  exact A.ex _ τ σ H k S
def EvR (K : PySem.W.Frag) (W : WX) (te : TE) (τ : Tau) (c : Str) : Prop := ∀ (σ : St) (B H : Hp), SlD K B σ τ → Same B H → (∀ B' H', Step B H B' H' → W (clsV K c) none σ H') → ∀ Q : VK, te σ H Q
def EvRA (K : PySem.W.Frag) (W : WX) (ta : TA) (τ : Tau) (c : Str) : Prop := ∀ (σ : St) (B H : Hp), SlD K B σ τ → Same B H → (∀ B' H', Step B H B' H' → W (clsV K c) none σ H') → ∀ Q : List V → Hp → Prop, ta σ H Q
theorem StB.evR {te : TE} {c : Str} {W : WX} {B0 H0 B H : Hp} {σ : St} (S : StB K B0 H0 B τ σ H) (h : EvR K W te (dv τ) c) (q : ∀ B' H', StB K B0 H0 B' τ σ H' → W (clsV K c) none σ H') (Q : VK) : te σ H Q :=
  h σ B H S.slD S.st.i (fun B' H' s => q B' H' (S.step s)) Q
theorem ws_dropR {W : WX} {c : Str} (hW : E.W = W) (h : EvR K W te (dv τ) c) (k : E.ex c τ) : WS K (tDrop te) τ E := fun B0 H0 D σ H ⟨B, S⟩ A => by
  subst hW
  exact S.evR h (fun B' H' S' => A.ex _ τ σ H' k ⟨B', S'⟩) _
theorem ws_retR {W : WX} {c : Str} (hW : E.W = W) (h : EvR K W te (dv τ) c) (k : E.ex c τ) : WS K (tRet te) τ E := fun B0 H0 D σ H ⟨B, S⟩ A => by
  subst hW
  exact S.evR h (fun B' H' S' => A.ex _ τ σ H' k ⟨B', S'⟩) _
theorem ws_setR {W : WX} {c : Str} {g : TG} (hW : E.W = W) (h : EvR K W te (dv τ) c) (k : E.ex c τ) : WS K (tAsg te g) τ E := fun B0 H0 D σ H ⟨B, S⟩ A => by
  subst hW
  exact S.evR h (fun B' H' S' => A.ex _ τ σ H' k ⟨B', S'⟩) _
end
section
variable {K : PySem.W.Frag} {W : WX} {τ : Tau} {ta tb te : TE} {x : PyData} {r : R2} {c : Str}
theorem er_op1 (h : EvR K W ta τ c) : EvR K W (tOp r ta tb) τ c := fun σ B H hs e q Q => h σ B H hs e q _
theorem er_op2 (ha : EvS K ta τ x) (h : EvR K W tb τ c) : EvR K W (tOp r ta tb) τ c := fun σ B H hs e q Q =>
  ha σ B H hs e _ fun v B1 H1 s1 d1 => h σ B1 H1 (hs.same s1.b) s1.i (fun B' H' s => q B' H' (s1.trans s)) _
theorem era_head {tr : TA} (h : EvR K W ta τ c) : EvRA K W (tCons ta tr) τ c := fun σ B H hs e q Q => h σ B H hs e q _
theorem era_tail {tr : TA} (ha : EvS K ta τ x) (h : EvRA K W tr τ c) : EvRA K W (tCons ta tr) τ c := fun σ B H hs e q Q =>
  ha σ B H hs e _ fun v B1 H1 s1 d1 => h σ B1 H1 (hs.same s1.b) s1.i (fun B' H' s => q B' H' (s1.trans s)) _
theorem er_cb {rr : List V → Hp → VK → Prop} {tr : TA} (h : EvRA K W tr τ c) : EvR K W (tCB rr tr) τ c := fun σ B H hs e q Q => h σ B H hs e q _
theorem er_lst {tr : TA} (h : EvRA K W tr τ c) : EvR K W (tLst tr) τ c := fun σ B H hs e q Q => h σ B H hs e q _
theorem er_tup {tr : TA} (h : EvRA K W tr τ c) : EvR K W (tTup tr) τ c := fun σ B H hs e q Q => h σ B H hs e q _
theorem er_if {t : TT} {b : Bool} (h : EvT K t τ b) (h1 : b = true → EvR K W ta τ c) (h2 : b = false → EvR K W tb τ c) : EvR K W (tIf t ta tb) τ c := fun σ B H hs e q Q => h σ B H hs e _ fun B1 H1 s1 => by
  cases b with
  | true => exact h1 rfl σ B1 H1 (hs.same s1.b) s1.i (fun B' H' s => q B' H' (s1.trans s)) Q
  | false => exact h2 rfl σ B1 H1 (hs.same s1.b) s1.i (fun B' H' s => q B' H' (s1.trans s)) Q
end
end Sw
/-! part SwC -/
set_option Elab.async false
set_option linter.all false
set_option maxRecDepth 100000
set_option maxHeartbeats 4000000
namespace Sw
open PySem PySem.Spec L2

/-! ## F. what is walked -/
structure Walks (K : PySem.W.Frag) (J : It) (B : Hp) (xs : List PyData) : Prop where
  go : ∀ (i : Nat) (H : Hp), Same B H → i < xs.length → J.go i H
  stop : ∀ (H : Hp), Same B H → J.stop xs.length H
  yld : ∀ (i : Nat) (H : Hp) (v : V) (H' : Hp) (x : PyData), Same B H → xs[i]? = some x → J.yld i H v H' → ∀ B1, Same B B1 → Same B1 H → ∃ B2, Step B1 H B2 H' ∧ Dd K B2 v x
def IterE (K : PySem.W.Frag) (wi : TI) (τ : Tau) (xs : List PyData) : Prop := ∀ (σ : St) (B H : Hp), SlD K B σ τ → Same B H → ∀ R : It → Hp → Prop, (∀ J B' H', Step B H B' H' → Walks K J B' xs → R J H') → wi σ H R
/-- a walk that hangs on no object -/
def IterN (K : PySem.W.Frag) (wi : TI) (τ : Tau) (xs : List PyData) : Prop := ∀ (σ : St) (B H : Hp), SlD K B σ τ → Same B H → ∀ R : It → Hp → Prop, (∀ J B' H', Step B H B' H' → (∀ B, Walks K J B xs) → R J H') → wi σ H R
theorem IterN.e {K : PySem.W.Frag} {wi : TI} {τ : Tau} {xs : List PyData} (h : IterN K wi τ xs) : IterE K wi τ xs := fun σ B H hs e R q => h σ B H hs e R fun J B' H' s w => q J B' H' s (w B')
section
variable {K : PySem.W.Frag} {τ : Tau} {te tl : TE} {ta : TA} {xs : List PyData}
theorem walks_list {B : Hp} {a : Addr} (h : Dd K B (.ref a) (.list xs)) : Walks K (Itl K a) B xs := by
  cases h with
  | @lst _ vs _ hs ha =>
    have hl := dps_len ha
    refine ⟨fun i H e hi => ?_, fun H e => ⟨vs, SqL.of (e _ _ hs), by omega⟩, fun i H v H' x e hx hy B1 e1 e2 => ?_⟩
    · obtain ⟨v, hv, _⟩ := dps_get ha (List.getElem?_eq_getElem hi)
      exact ⟨vs, v, SqL.of (e _ _ hs), hv⟩
    · obtain ⟨rfl, hy⟩ := hy
      obtain ⟨w, hw, hd⟩ := dps_get ha hx
      have z := hy vs (SqL.of (e _ _ hs))
      rw [hw] at z
      cases z
      exact ⟨B1, Step.refl e2, dp_same e1 _ _ hd⟩
theorem walks_tup {B : Hp} {a : Addr} (h : Dd K B (.ref a) (.tuple xs)) : Walks K (Itt K a) B xs := by
  cases h with
  | @tup _ vs _ hs ha =>
    have hl := dps_len ha
    refine ⟨fun i H e hi => ?_, fun H e => ⟨vs, st_same e hs, by omega⟩, fun i H v H' x e hx hy B1 e1 e2 => ?_⟩
    · obtain ⟨v, hv, _⟩ := dps_get ha (List.getElem?_eq_getElem hi)
      exact ⟨vs, v, st_same e hs, hv⟩
    · obtain ⟨rfl, hy⟩ := hy
      obtain ⟨w, hw, hd⟩ := dps_get ha hx
      have z := hy vs (st_same e hs)
      rw [hw] at z
      cases z
      exact ⟨B1, Step.refl e2, dp_same e1 _ _ hd⟩
/-- the signs of a text, each a text -/
def signs (z : Str) : List PyData := z.cps.toList.map fun c => PyData.str ⟨#[c]⟩
theorem walks_str {z : Str} (B : Hp) : Walks K (Its z) B (signs z) := by
  have hl : (signs z).length = z.cps.size := by unfold signs; rw [List.length_map, Array.length_toList]
  refine ⟨fun i H e hi => by rw [hl] at hi; exact hi, fun H e => by rw [hl]; exact Nat.le_refl z.cps.size, fun i H v H' x e hx hy B1 e1 e2 => ?_⟩
  obtain ⟨rfl, c, hc, rfl⟩ := hy
  unfold signs at hx
  rw [List.getElem?_map, Array.getElem?_toList, hc] at hx
  cases hx
  exact ⟨B1, Step.refl e2, .str _⟩
def rng (lo : Int) (n : Nat) : List PyData := (List.range n).map fun (k : Nat) => PyData.int (lo + (k : Int))
theorem rng_len (lo : Int) (n : Nat) : (rng lo n).length = n := by unfold rng; rw [List.length_map, List.length_range]
theorem rng_get {lo : Int} {n i : Nat} {x : PyData} (h : (rng lo n)[i]? = some x) : i < n ∧ x = .int (lo + (i : Int)) := by
  unfold rng at h
  rw [List.getElem?_map] at h
  cases e : (List.range n)[i]? with
  | none => rw [e] at h; cases h
  | some k =>
    rw [e] at h
    have e2 := List.getElem?_eq_some_iff.mp e
    obtain ⟨h1, h2⟩ := e2
    rw [List.length_range] at h1
    rw [List.getElem_range] at h2
    subst h2
    exact ⟨h1, (Option.some.inj h).symm⟩
theorem walks_range {lo : Int} {n : Nat} (B : Hp) : Walks K (Itr lo n) B (rng lo n) := by
  refine ⟨fun i H e hi => by rw [rng_len] at hi; exact hi, fun H e => by rw [rng_len]; exact Nat.le_refl n, fun i H v H' x e hx hy B1 e1 e2 => ?_⟩
  obtain ⟨rfl, rfl⟩ := hy
  obtain ⟨_, rfl⟩ := rng_get hx
  exact ⟨B1, Step.refl e2, .int _⟩
theorem ie_list (h : EvS K tl τ (.list xs)) : IterE K (iList K tl) τ xs := fun σ B H hs e R q => h σ B H hs e _ fun v B1 H1 s1 d1 => by
  have d1 : Dd K B1 v (.list xs) := d1
  cases d1 with
  | lst hs ha => exact ⟨_, rfl, ⟨_, SqL.of (s1.i _ _ hs)⟩, q _ B1 H1 s1 (walks_list (.lst hs ha))⟩
theorem ie_tup (h : EvS K tl τ (.tuple xs)) : IterE K (iTup K tl) τ xs := fun σ B H hs e R q => h σ B H hs e _ fun v B1 H1 s1 d1 => by
  have d1 : Dd K B1 v (.tuple xs) := d1
  cases d1 with
  | tup hs ha => exact ⟨_, rfl, ⟨_, st_same s1.i hs⟩, q _ B1 H1 s1 (walks_tup (.tup hs ha))⟩
theorem in_str {z : Str} (h : EvS K te τ (.str z)) : IterN K (iStr te) τ (signs z) := fun σ B H hs e R q => h σ B H hs e _ fun v B1 H1 s1 d1 => by
  have d1 : Dd K B1 v (.str z) := d1
  cases d1
  exact ⟨z, rfl, q _ B1 H1 s1 walks_str⟩
theorem in_range1 {n : Int} (h : EvA K ta τ [.int n]) (h1 : -(2 ^ 62) ≤ n) (h2 : n < 2 ^ 62) : IterN K (iRng1 ta) τ (rng 0 n.toNat) := fun σ B H hs e R q => h σ B H hs e _ fun vs B1 H1 s1 d1 => by
  cases d1 with
  | cons a b =>
    cases a
    cases b
    exact ⟨n, rfl, h1, h2, q _ B1 H1 s1 walks_range⟩
theorem in_range2 {lo n : Int} (h : EvA K ta τ [.int lo, .int n]) (hb : -(2 ^ 62) ≤ lo ∧ lo < 2 ^ 62 ∧ -(2 ^ 62) ≤ n ∧ n < 2 ^ 62) : IterN K (iRng2 ta) τ (rng lo (n - lo).toNat) := fun σ B H hs e R q => h σ B H hs e _ fun vs B1 H1 s1 d1 => by
  cases d1 with
  | cons a b =>
    cases a
    cases b with
    | cons a b =>
      cases a
      cases b
      exact ⟨lo, n, rfl, hb, q _ B1 H1 s1 walks_range⟩
end

/-! ## G. for -/
section
variable {K : PySem.W.Frag} {τ : List SD} {E : DEnds} {tb : TS} {wi : TI} {g : TG} {xs : List PyData}
theorem for_core {J : It} {B0 H0 B1 H1 : Hp} {D : Ends} {σ : St} (S1 : StB K B0 H0 B1 τ σ H1) (A : Sat K B0 H0 E D) (wk : Walks K J B1 xs) (I : Nat → List SD → Prop) (h0 : I 0 τ)
    (hs : ∀ i x τ', xs[i]? = some x → I i τ' → ∃ τ2, TgD K g x τ' τ2 ∧ WS K tb τ2 { E with nx := I (i + 1), ct := I (i + 1), bk := E.nx }) (hd : ∀ τ', I xs.length τ' → E.nx τ') :
    ∃ W : Nat → Nat → St → Hp → Prop, (∃ m, W 0 m σ H1) ∧ ∀ i m σ H, W i m σ H →
      (J.stop i H ∧ D.nx σ H) ∨ (J.go i H ∧ ∃ N : St → Hp → Prop, (∀ σ' H', N σ' H' → ∃ m', m' < m ∧ W (i + 1) m' σ' H') ∧ ∀ x H', J.yld i H x H' → g x σ H' fun σ2 H2 => tb { D with nx := N, ct := N, bk := D.nx } σ2 H2) := by
  obtain ⟨Hb, S2, hsm, hbk⟩ := S1.rebase
  refine ⟨fun i m σ' H' => m = xs.length - i ∧ i ≤ xs.length ∧ ∃ τ', I i τ' ∧ StOk K B1 Hb τ' σ' H', ⟨xs.length, by simp, Nat.zero_le _, τ, h0, B1, S2⟩, ?_⟩
  rintro i m σ' H' ⟨rfl, hi, τ', hI, B', S'⟩
  have e1 : Same B1 H' := S'.st.b.trans S'.st.i
  by_cases hlt : i < xs.length
  · refine .inr ⟨wk.go i H' e1 hlt, fun σ2 H2 => ∃ τ2, I (i + 1) τ2 ∧ StOk K B1 Hb τ2 σ2 H2, fun σ2 H2 hN => ⟨xs.length - (i + 1), by omega, rfl, hlt, hN⟩, fun x H2 hy => ?_⟩
    obtain ⟨B2, st2, hdx⟩ := wk.yld i H' x H2 _ e1 (List.getElem?_eq_getElem hlt) hy B' S'.st.b S'.st.i
    obtain ⟨τ2, htg, hws⟩ := hs i _ τ' (List.getElem?_eq_getElem hlt) hI
    refine htg B1 Hb B2 σ' H2 x _ (S'.step st2) hdx fun σ3 S3 => ?_
    exact hws B1 Hb _ σ3 H2 ⟨B2, S3⟩ ⟨fun τ4 σ4 H4 z S4 => ⟨τ4, z, S4⟩, fun sd v B4 H4 z s4 w4 => A.rt sd v B4 H4 z (hbk _ _ s4) (w4.since hsm),
      fun τ4 σ4 H4 z ⟨B4, S4⟩ => A.nx τ4 σ4 H4 z ⟨B4, S4.back hsm hbk⟩, fun τ4 σ4 H4 z S4 => ⟨τ4, z, S4⟩, fun c τ4 σ4 H4 z ⟨B4, S4⟩ => A.ex c τ4 σ4 H4 z ⟨B4, S4.back hsm hbk⟩⟩
  · have e : i = xs.length := by omega
    subst e
    exact .inl ⟨wk.stop H' e1, A.nx τ' σ' H' (hd τ' hI) ⟨B', S'.back hsm hbk⟩⟩
theorem ws_for (hi : IterE K wi (dv τ) xs) (I : Nat → List SD → Prop) (h0 : I 0 τ)
    (hs : ∀ i x τ', xs[i]? = some x → I i τ' → ∃ τ2, TgD K g x τ' τ2 ∧ WS K tb τ2 { E with nx := I (i + 1), ct := I (i + 1), bk := E.nx }) (hd : ∀ τ', I xs.length τ' → E.nx τ') : WS K (tFor wi g tb) τ E := fun B0 H0 D σ H ⟨B, S⟩ A =>
  hi σ B H S.slD S.st.i _ fun J B1 H1 st1 wk => for_core (S.step st1) A wk I h0 hs hd
/-- over what hangs on no object, its bounds may be read off own lists -/
theorem ws_forN (hi : IterN K wi (av τ) xs) (I : Nat → List SD → Prop) (h0 : I 0 τ)
    (hs : ∀ i x τ', xs[i]? = some x → I i τ' → ∃ τ2, TgD K g x τ' τ2 ∧ WS K tb τ2 { E with nx := I (i + 1), ct := I (i + 1), bk := E.nx }) (hd : ∀ τ', I xs.length τ' → E.nx τ') : WS K (tFor wi g tb) τ E := fun B0 H0 D σ H ⟨B, S⟩ A =>
  hi σ _ H S.slA (plus_in S.st.i) _ fun J B1 H1 st1 wk => for_core (S.later st1.h) A (wk B) I h0 hs hd
end

/-! ## H. comprehensions -/
def wipeD (τ : Tau) : List Nat → Tau
  | [] => τ
  | v :: vs => (wipeD τ vs).set v none
theorem wipeD_len (τ : Tau) : ∀ vs : List Nat, (wipeD τ vs).length = τ.length
  | [] => rfl
  | v :: vs => by unfold wipeD; rw [List.length_set, wipeD_len τ vs]
theorem wipeD_get {τ : Tau} {i : Nat} {d : PyData} : ∀ {vs : List Nat}, (wipeD τ vs)[i]? = some (some d) → τ[i]? = some (some d) ∧ i ∉ vs
  | [], h => ⟨h, by simp⟩
  | v :: vs, h => by
    unfold wipeD at h
    rcases set_get h with ⟨_, e, _⟩ | ⟨hi, h⟩
    · cases e
    · obtain ⟨h1, h2⟩ := wipeD_get h
      exact ⟨h1, by simp [hi, h2]⟩
theorem wipe_at {σ : St} {i : Nat} : ∀ {vs : List Nat}, i ∈ vs → i < σ.length → (wipe σ vs)[i]? = some none
  | v :: vs, h, hl => by
    unfold wipe
    by_cases e : v = i
    · subst e; rw [List.getElem?_set_self (by rw [wipe_length]; exact hl)]
    · rw [List.getElem?_set_ne e]
      exact wipe_at ((List.mem_cons.mp h).resolve_left fun z => e z.symm) hl
theorem wipe_set {σ : St} {j : Nat} {x : Option V} {vs : List Nat} (h : j ∈ vs) : wipe (σ.set j x) vs = wipe σ vs := by
  apply List.ext_getElem?
  intro i
  by_cases hi : i ∈ vs
  · by_cases hl : i < σ.length
    · rw [wipe_at hi (by rw [List.length_set]; exact hl), wipe_at hi hl]
    · rw [List.getElem?_eq_none (by rw [wipe_length, List.length_set]; omega), List.getElem?_eq_none (by rw [wipe_length]; omega)]
  · rw [wipe_out hi, wipe_out hi, List.getElem?_set_ne (fun z => hi (by rw [← z]; exact h))]
theorem wipe_wipe (σ : St) (vs : List Nat) : wipe (wipe σ vs) vs = wipe σ vs := by
  apply List.ext_getElem?
  intro i
  by_cases hi : i ∈ vs
  · by_cases hl : i < σ.length
    · rw [wipe_at hi (by rw [wipe_length]; exact hl), wipe_at hi hl]
    · rw [List.getElem?_eq_none (by rw [wipe_length, wipe_length]; omega), List.getElem?_eq_none (by rw [wipe_length]; omega)]
  · rw [wipe_out hi]
theorem SlD.wipe {K : PySem.W.Frag} {B : Hp} {σ : St} {τ : Tau} (vs : List Nat) (h : SlD K B σ τ) : SlD K B (L2.wipe σ vs) (wipeD τ vs) := ⟨by rw [wipe_length, wipeD_len]; exact h.len, fun i d z => by
  obtain ⟨z1, z2⟩ := wipeD_get z
  obtain ⟨v, h1, h2⟩ := h.at_ i d z1
  exact ⟨v, by rw [wipe_out z2]; exact h1, h2⟩⟩
/-- a comprehension's target -/
def TgE (K : PySem.W.Frag) (g : TG) (vs : List Nat) (d : PyData) (τ τ' : Tau) : Prop := ∀ (σ : St) (B H : Hp) (v : V) (Q : St → Hp → Prop), SlD K B σ τ → Same B H → Dd K B v d → (∀ σ', SlD K B σ' τ' → wipe σ' vs = wipe σ vs → Q σ' H) → g v σ H Q
def TgsE (K : PySem.W.Frag) (g : TGs) (vs : List Nat) (ds : List PyData) (τ τ' : Tau) : Prop := ∀ (σ : St) (B H : Hp) (ws : List V) (Q : St → Hp → Prop), SlD K B σ τ → Same B H → DdAll K B ws ds → (∀ σ', SlD K B σ' τ' → wipe σ' vs = wipe σ vs → Q σ' H) → g ws σ H Q
section
variable {K : PySem.W.Frag} {τ τ' : Tau} {vs : List Nat} {d : PyData} {ds xs : List PyData} {i : Nat}
theorem te_name (h : i ∈ vs) : TgE K (gName i) vs d τ (τ.set i (some d)) := fun σ B H v Q hs e hv q => q _ ⟨by rw [List.length_set, List.length_set]; exact hs.len, fun j d' hj => by
  rcases set_get hj with ⟨rfl, e2, hl⟩ | ⟨hn, hj⟩
  · cases e2
    exact ⟨v, by rw [List.getElem?_set_self (by rw [hs.len]; exact hl)], hv⟩
  · obtain ⟨w, h1, h2⟩ := hs.at_ j d' hj
    exact ⟨w, by rw [List.getElem?_set_ne (fun z => hn z.symm)]; exact h1, h2⟩⟩ (wipe_set h)
theorem tes_nil : TgsE K gNil vs [] τ τ := fun σ B H ws Q hs e hv q => by cases hv; exact ⟨rfl, q σ hs rfl⟩
theorem tes_cons {g : TG} {gs : TGs} {τ1 : Tau} (h1 : TgE K g vs d τ τ1) (h2 : TgsE K gs vs ds τ1 τ') : TgsE K (gCons g gs) vs (d :: ds) τ τ' := fun σ B H ws Q hs e hv q => by
  cases hv with
  | cons hd hds => exact ⟨_, _, rfl, h1 σ B H _ _ hs e hd fun σ1 hs1 w1 => h2 σ1 B H _ Q hs1 e hds fun σ2 hs2 w2 => q σ2 hs2 (w2.trans w1)⟩
theorem te_tup {gs : TGs} {n : Nat} (h : TgsE K gs vs ds τ τ') (hn : ds.length = n) : TgE K (gTup K n gs) vs (.tuple ds) τ τ' := fun σ B H v Q hs e hv q => by
  cases hv with
  | tup ht ha => exact ⟨_, _, rfl, st_same e ht, by rw [dps_len ha]; exact hn, h σ B H _ Q hs e ha q⟩
theorem et_yes : EvT K tYes τ true := fun σ B H hs e Q q => q B H (Step.refl e)
theorem take_step {α : Type} {xs : List α} {i : Nat} {x : α} (h : xs[i]? = some x) : xs.take (i + 1) = xs.take i ++ [x] := by
  rw [List.take_succ, h]; rfl
/-- ys tells of each item what it gives (none: the if leaves it out) -/
theorem ev_lc {wi : TI} {g : TG} {tt : TT} {te : TE} (hi : IterE K wi τ xs) (ys : List (Option PyData)) (hy : ys.length = xs.length) (hz : xs.length ≤ sizeLine)
    (hs : ∀ (i : Nat) (x : PyData) (o : Option PyData), xs[i]? = some x → ys[i]? = some o → ∃ τ2, TgE K g vs x (wipeD τ vs) τ2 ∧ ((o = none ∧ EvT K tt τ2 false) ∨ ∃ y, o = some y ∧ EvT K tt τ2 true ∧ EvS K te τ2 y)) :
    EvX K (tLc wi g tt te vs) τ (.ls (ys.filterMap id)) := fun σ B H hsl e Q q => hi σ B H hsl e _ fun J B1 H1 st1 wk Dl hD => by
  have hDB : B1 Dl = none := Same.free st1.i hD
  refine ⟨fun i m H' => m = xs.length - i ∧ i ≤ xs.length ∧ ∃ B' acc, Step B1 H1 B' H' ∧ H' Dl = some (.lst acc) ∧ B' Dl = none ∧ DdAll K B' acc ((ys.take i).filterMap id), ⟨xs.length, by simp, Nat.zero_le _, B1, [], Step.own st1.i hD, upd_same, hDB, .nil⟩, ?_⟩
  rintro i m H' ⟨rfl, hi, B', acc, st', hacc, hB', hdp⟩
  have e1 : Same B1 H' := st'.b.trans st'.i
  by_cases hlt : i < xs.length
  · have hx : xs[i]? = some xs[i] := List.getElem?_eq_getElem hlt
    have hlt2 : i < ys.length := by omega
    have hyi : ys[i]? = some ys[i] := List.getElem?_eq_getElem hlt2
    refine .inr ⟨wk.go i H' e1 hlt, fun H2 => ∃ B2 acc2, Step B1 H1 B2 H2 ∧ H2 Dl = some (.lst acc2) ∧ B2 Dl = none ∧ DdAll K B2 acc2 ((ys.take (i + 1)).filterMap id), fun H2 hN => ⟨xs.length - (i + 1), by omega, rfl, hlt, hN⟩, fun v H2 hy => ?_⟩
    obtain ⟨B2, st2, hdx⟩ := wk.yld i H' v H2 _ e1 hx hy B' st'.b st'.i
    obtain ⟨τ2, htg, hcase⟩ := hs i _ _ hx hyi
    have hsl2 : SlD K B2 σ τ := hsl.same (st1.b.trans (st'.b.trans st2.b))
    have hnD : H' Dl ≠ none := by rw [hacc]; exact fun z => nomatch z
    refine htg (wipe σ vs) B2 H2 v _ (hsl2.wipe vs) st2.i hdx fun σ3 hs3 hw3 => ⟨by rw [hw3, wipe_wipe], ?_⟩
    have hB2 : B2 Dl = none := st2.f Dl hnD hB'
    have hD2 : H2 Dl = some (.lst acc) := st2.h Dl _ hacc
    rcases hcase with ⟨hf, ht⟩ | ⟨y, hf, ht, hy⟩
    · refine ht σ3 B2 H2 hs3 st2.i _ fun B3 H3 st3 => ?_
      show ∃ B2 acc2, Step B1 H1 B2 H3 ∧ H3 Dl = some (.lst acc2) ∧ B2 Dl = none ∧ DdAll K B2 acc2 ((ys.take (i + 1)).filterMap id)
      refine ⟨B3, acc, (st'.trans st2).trans st3, st3.h Dl _ hD2, st3.f Dl (by rw [hD2]; exact fun z => nomatch z) hB2, ?_⟩
      rw [take_step hyi, List.filterMap_append, hf]
      show DdAll K B3 acc ((ys.take i).filterMap id ++ [])
      rw [List.append_nil]
      exact dps_same (st2.b.trans st3.b) _ _ hdp
    · refine ht σ3 B2 H2 hs3 st2.i _ fun B3 H3 st3 => ?_
      have hB3 : B3 Dl = none := st3.f Dl (by rw [hD2]; exact fun z => nomatch z) hB2
      have hD3 := st3.h Dl _ hD2
      show te σ3 H3 _
      refine hy σ3 B3 H3 (hs3.same st3.b) st3.i _ fun w B4 H4 st4 d4 => ?_
      have hB4 : B4 Dl = none := st4.f Dl (by rw [hD3]; exact fun z => nomatch z) hB3
      have hD4 := st4.h Dl _ hD3
      have stA := ((st'.trans st2).trans st3).trans st4
      refine ⟨acc, hD4, ?_, B4, acc ++ [w], ⟨stA.b, fun a o h => by rw [upd_ne (ne_of_none h hD)]; exact stA.h a o h, fun a o h => by rw [upd_ne (ne_of_none h hB4)]; exact stA.i a o h, stA.f⟩, upd_same, hB4, ?_⟩
      · have h1 := dps_len hdp
        have h2 := List.length_filterMap_le id (ys.take i)
        rw [List.length_take] at h2
        omega
      · rw [take_step hyi, List.filterMap_append, hf]
        exact dps_app (dps_same ((st2.b.trans st3.b).trans st4.b) _ _ hdp) (.cons d4 .nil)
  · have ei : i = xs.length := by omega
    subst ei
    rw [← hy, List.take_length] at hdp
    exact .inl ⟨wk.stop H' e1, q _ B' H' (st1.trans st') ⟨Dl, _, rfl, Same.free st1.h hD, hacc, hB', acc, rfl, hdp⟩⟩
theorem fm_if {α : Type} {p : α → Bool} {f : α → PyData} : ∀ l : List α, (l.map fun a => if p a = true then some (f a) else none).filterMap id = (l.filter p).map f
  | [] => rfl
  | a :: l => by
    rw [List.map_cons, List.filterMap_cons, List.filter_cons]
    by_cases h : p a = true
    · simp only [h, if_true, id, fm_if l, List.map_cons]
    · simp only [h, id, fm_if l]
      simp
/-- over a list of things that are data by g; with an if -/
theorem ev_lcF {α : Type} {l : List α} {d : α → PyData} {wi : TI} {g : TG} {tt : TT} {te : TE} (p : α → Bool) (f : α → PyData) (hi : IterE K wi τ (l.map d)) (hz : l.length ≤ sizeLine)
    (hs : ∀ a ∈ l, ∃ τ2, TgE K g vs (d a) (wipeD τ vs) τ2 ∧ EvT K tt τ2 (p a) ∧ (p a = true → EvS K te τ2 (f a))) : EvX K (tLc wi g tt te vs) τ (.ls ((l.filter p).map f)) := by
  rw [← fm_if]
  refine ev_lc hi _ (by rw [List.length_map, List.length_map]) (by rw [List.length_map]; exact hz) fun i x o hx ho => ?_
  rw [List.getElem?_map] at hx ho
  cases e : l[i]? with
  | none => rw [e] at hx; cases hx
  | some a =>
    rw [e] at hx ho
    cases hx
    cases ho
    obtain ⟨τ2, h1, h2, h3⟩ := hs a (List.mem_of_getElem? e)
    refine ⟨τ2, h1, ?_⟩
    by_cases h : p a = true
    · rw [h] at h2
      exact .inr ⟨f a, by simp [h], h2, h3 h⟩
    · have h' : p a = false := by simpa using h
      rw [h'] at h2
      exact .inl ⟨by simp [h], h2⟩
/-- without an if -/
theorem ev_lcM {α : Type} {l : List α} {d : α → PyData} {wi : TI} {g : TG} {te : TE} (f : α → PyData) (hi : IterE K wi τ (l.map d)) (hz : l.length ≤ sizeLine)
    (hs : ∀ a ∈ l, ∃ τ2, TgE K g vs (d a) (wipeD τ vs) τ2 ∧ EvS K te τ2 (f a)) : EvX K (tLc wi g tYes te vs) τ (.ls (l.map f)) := by
  have h := ev_lcF (tt := tYes) (te := te) (fun _ => true) f hi hz fun a ha => by
    obtain ⟨τ2, h1, h2⟩ := hs a ha
    exact ⟨τ2, h1, et_yes, fun _ => h2⟩
  rw [List.filter_eq_self.mpr (fun _ _ => rfl)] at h
  exact h
end

/-! ## I. defs -/
/-- nothing gets out -/
abbrev W0 : WX := fun _ _ _ _ => False
/-- a promise over data: F tells for which arguments which value comes back -/
def spD (K : PySem.W.Frag) (F : List PyData → SD → Prop) : Sp := fun vs H Q E => ∃ B ds sd, Same B H ∧ DdAll K B vs ds ∧ F ds sd ∧ (∀ v B' H', Step B H B' H' → VRel K B' H H' v sd → Q v H') ∧ ∀ c B' H', sd = .ex c → Step B H B' H' → E (clsV K c) none H'
theorem ev_call {K : PySem.W.Frag} {τ : Tau} {F : List PyData → SD → Prop} {ta : TA} {ds : List PyData} {sd : SD} {E : St → XK} (ha : EvA K ta τ ds) (hF : F ds sd) (hx : ∀ c, sd ≠ .ex c := by intro c z; cases z) : EvX K (tCallS (spD K F) E ta) τ sd := fun σ B H hs e Q q =>
  ha σ B H hs e _ fun vs B1 H1 s1 d1 => ⟨B1, ds, sd, s1.i, d1, hF, fun v B' H' s2 w => q v B' H' (s1.trans s2) (w.since s1.h), fun c _ _ z => absurd z (hx c)⟩
theorem er_call {K : PySem.W.Frag} {τ : Tau} {F : List PyData → SD → Prop} {ta : TA} {ds : List PyData} {c : Str} {W : WX} (ha : EvA K ta τ ds) (hF : F ds (.ex c)) : EvR K W (tCallS (spD K F) (WE W) ta) τ c := fun σ B H hs e q Q =>
  ha σ B H hs e _ fun vs B1 H1 s1 d1 => ⟨B1, ds, .ex c, s1.i, d1, hF, fun v B' H' s2 w => (VRel.ex w).elim, fun c' B' H' z s2 => by cases z; exact q B' H' (s1.trans s2)⟩
def startD (n : Nat) (ds : List PyData) : List SD := ds.map SD.dt ++ List.replicate (n - ds.length) .no
abbrev retE (W : WX) (sd : SD) : DEnds := { nx := fun _ => sd = .dt .none, rt := fun s => s = sd, W := W, ex := fun c _ => sd = .ex c }
theorem start_ok {K : PySem.W.Frag} {B H : Hp} {N : List Str} {vs : List V} {ds : List PyData} (e : Same B H) (h : DdAll K B vs ds) : StB K B H B (startD N.length ds) (L2.start N vs) H where
  st := Step.refl e
  len := by unfold startD L2.start; rw [List.length_append, List.length_append, List.length_map, List.length_map, List.length_replicate, List.length_replicate, dps_len h]
  sl := fun i sd hi => by
    unfold startD at hi
    by_cases hl : i < ds.length
    · rw [List.getElem?_append_left (by rw [List.length_map]; exact hl), List.getElem?_map] at hi
      rw [List.getElem?_eq_getElem hl] at hi
      cases hi
      obtain ⟨v, h1, h2⟩ := dps_get h (List.getElem?_eq_getElem hl)
      refine .inr ⟨v, ?_, h2⟩
      unfold L2.start
      rw [List.getElem?_append_left (by rw [List.length_map, dps_len h]; exact hl), List.getElem?_map, h1]
      rfl
    · rw [List.getElem?_append_right (by rw [List.length_map]; omega)] at hi
      have := List.mem_of_getElem? hi
      exact .inl (List.eq_of_mem_replicate this)
  ap := fun i j si sj p hij hi hj oi oj e1 e2 => by
    have aux : ∀ {m : Nat} {s : SD}, (startD N.length ds)[m]? = some s → s.owned = true → False := fun {m s} hm os => by
      have := List.mem_of_getElem? hm
      unfold startD at this
      rcases List.mem_append.mp this with z | z
      · obtain ⟨d, _, rfl⟩ := List.mem_map.mp z
        cases os
      · rw [List.eq_of_mem_replicate z] at os
        cases os
    exact aux hi oi
abbrev FnP (K : PySem.W.Frag) (x : Str) (st : Stmt) (f : Addr) (fd : FuncData) : Prop := FunD K x x (defArgs st) (defBody st) (defScope st) [] [] f fd
theorem fn_ok {P : Program} {w : World} {K : PySem.W.Frag} {mg : Str → Option Value} {base : Heap} {x : Str} {st : Stmt} {f : Addr} {fd : FuncData} {N ps : List Str} {k : Nat} {F : List PyData → SD → Prop} {CX : CXT}
    (Fn : FnP K x st f fd) (S : FnScope N ps (defScope st)) (len : ∀ ds sd, F ds sd → ds.length = ps.length)
    (hb : ∀ (cdv : Value) (A : Around) (outer : List Env) (s : Shared) (H : Hp) (E : XK), Room k (A.deeper (PyProof.Rows.envOfC x (defScope st) s.heap.objs.size f cdv)) →
      ∃ t, PSs (cxOf CX P w K mg base N x (defScope st) f cdv A outer s H E) (defBody st) t ∧ ∀ ds sd, F ds sd → WS K t (startD N.length ds) (retE (fun cls d _ H' => E cls d H') sd)) : FnOk P w K mg base CX (k + 1) f fd ps (spD K F) := by
  refine FunD.ok Fn S (fun vs H Q E ⟨B, ds, sd, _, h2, h3, _⟩ => by rw [dps_len h2]; exact len ds sd h3) fun cdv A outer s H vs Q E hr hsp => ?_
  obtain ⟨t, h1, h2⟩ := hb cdv A outer s H E hr
  obtain ⟨B, ds, sd, g1, g2, g3, g4, g5⟩ := hsp
  refine ⟨t, h1, h2 ds sd g3 B H _ _ H ⟨B, start_ok g1 g2⟩ ⟨fun τ σ H' e ⟨B', S'⟩ => ?_, fun s v B' H' e st w => ?_, fun _ _ _ z => z.elim, fun _ _ _ z => z.elim, fun c τ σ H' e ⟨B', S'⟩ => g5 c B' H' e S'.st⟩⟩
  · exact g4 .non B' H' S'.st (by rw [show sd = .dt .none from e]; exact .non)
  · exact g4 v B' H' st (by rw [← (show s = sd from e)]; exact w)
theorem fn_okL {P : Program} {w : World} {K : PySem.W.Frag} {mg : Str → Option Value} {base : Heap} {x : Str} {st : Stmt} {f : Addr} {fd : FuncData} {N ps : List Str} {k : Nat} {F : List PyData → SD → Prop} {CX : CXT}
    (Fn : FnP K x st f fd) (S : FnScope N ps (defScope st)) (len : ∀ ds sd, F ds sd → ds.length = ps.length) (nx : ∀ ds sd c, F ds sd → sd ≠ .ex c)
    (hb : ∀ (cdv : Value) (A : Around) (outer : List Env) (s : Shared) (H : Hp) (E : XK), Room k (A.deeper (PyProof.Rows.envOfC x (defScope st) s.heap.objs.size f cdv)) →
      ∃ t, PSs (cxOf CX P w K mg base N x (defScope st) f cdv A outer s H E) (defBody st) t ∧ ∀ ds sd, F ds sd → WS K t (startD N.length ds) (retE (fun _ _ _ _ => False) sd)) : FnOk P w K mg base CX (k + 1) f fd ps (spD K F) := by
  refine FunD.ok Fn S (fun vs H Q E ⟨B, ds, sd, _, h2, h3, _⟩ => by rw [dps_len h2]; exact len ds sd h3) fun cdv A outer s H vs Q E hr hsp => ?_
  obtain ⟨t, h1, h2⟩ := hb cdv A outer s H E hr
  obtain ⟨B, ds, sd, g1, g2, g3, g4, g5⟩ := hsp
  refine ⟨t, h1, h2 ds sd g3 B H _ _ H ⟨B, start_ok g1 g2⟩ ⟨fun τ σ H' e ⟨B', S'⟩ => ?_, fun s v B' H' e st w => ?_, fun _ _ _ z => z.elim, fun _ _ _ z => z.elim, fun c τ σ H' e _ => absurd e (nx ds sd c g3)⟩⟩
  · exact g4 .non B' H' S'.st (by rw [show sd = .dt .none from e]; exact .non)
  · exact g4 v B' H' st (by rw [← (show s = sd from e)]; exact w)
end Sw
/-! part SwD -/
set_option Elab.async false
set_option linter.all false
set_option maxRecDepth 100000
set_option maxHeartbeats 4000000
namespace Sw
open PySem PySem.Spec L2

/-! ## J. operators, by what the operands are -/
def rAddI : R2 := fun x y H Q => ∃ i j, x = .int i ∧ y = .int j ∧ Q (.int (i + j)) H
def rAddS : R2 := fun x y H Q => ∃ i j, x = .str i ∧ y = .str j ∧ i.length + j.length ≤ sizeLine ∧ Q (.str (i ++ j)) H
def rAddU (K : PySem.W.Frag) : R2 := fun x y H Q => rAddI x y H Q ∨ rAddS x y H Q ∨ rCat x y H Q ∨ rCatA K x y H Q
def rMulI : R2 := fun x y H Q => ∃ i j, x = .int i ∧ y = .int j ∧ CMul i j ∧ Q (.int (i * j)) H
def rMulS : R2 := fun x y H Q => ∃ z k, x = .str z ∧ y = .int k ∧ 0 ≤ k ∧ z.length * k.toNat ≤ sizeLine ∧ k ≤ sizeLine ∧ Q (.str ⟨(List.replicate k.toNat z.cps.toList).flatten.toArray⟩) H
def rMulU (K : PySem.W.Frag) : R2 := fun x y H Q => rMulI x y H Q ∨ rMulS x y H Q ∨ rRep x y H Q ∨ rRepT K x y H Q
section
variable {X : Cx}
theorem op_addU : OpR X (binaryOp .Add) (rAddU X.K) := OpR.or (r := rAddI) op_add (OpR.or (r := rAddS) op_add_str (OpR.or op_cat op_catA))
theorem op_mulS : OpR X (binaryOp .Mult) rMulS := by
  intro pins s σ H x y v u Q I rx ry h
  obtain ⟨z, k, rfl, rfl, h0, hz, hk, q⟩ := h
  obtain ⟨t, rfl⟩ := rx
  obtain ⟨t', rfl⟩ := ry
  have hs : sizeLine = 16777216 := by decide
  have key : ∀ (m : Nat) (acc : Array Nat), List.foldl (· ++ ·) acc (List.replicate m z.cps) = acc ++ (List.replicate m z.cps.toList).flatten.toArray := by
    intro m
    induction m with
    | zero => intro acc; simp
    | succ m ih =>
      intro acc
      rw [List.replicate_succ, List.foldl_cons, ih, List.replicate_succ, List.flatten_cons, Array.append_assoc]
      congr 1
      apply Array.ext'
      simp
  have hlen : (List.replicate k.toNat z.cps.toList).flatten.toArray.size ≤ sizeLine := by
    rw [List.size_toArray, List.length_flatten, List.map_replicate, List.sum_replicate_nat, Array.length_toList, Nat.mul_comm]
    exact hz
  refine PySem.P.mul_str ?_ (fun _ _ => ?_) (fun _ _ => ?_) ?_
  · have h1 : ¬ k < -(2 ^ 63 : Int) := by omega
    have h2 : ¬ k ≥ 2 ^ 63 := by omega
    rw [decide_eq_false h1, decide_eq_false h2]; rfl
  · have h5 : z.length * k.toNat ≤ 16777216 := by rw [← hs]; exact hz
    have h6 : (z.length : Int) * k ≤ 16777216 := by
      have h7 : ((z.length * k.toNat : Nat) : Int) ≤ 16777216 := by omega
      rw [Int.natCast_mul, Int.toNat_of_nonneg h0] at h7
      exact h7
    rename_i h8 h9
    have h10 : (z.length : Int) ≤ (2 ^ 63 - 1) / k := Int.le_ediv_of_mul_le (by omega) (by omega)
    omega
  · unfold Builtin.Str.tooLong
    exact decide_eq_false (by omega)
  · have q2 := q
    split
    · rename_i h1
      have h2 : k.toNat = 0 := by omega
      rw [h2] at q
      exact ⟨by decide, ⟨.str _, H, I.tok _, ⟨_, rfl⟩, q⟩⟩
    · split
      · rename_i h1 h2
        refine ⟨.str z, H, I, ⟨_, rfl⟩, ?_⟩
        have e : (⟨(List.replicate k.toNat z.cps.toList).flatten.toArray⟩ : Str) = z := by
          rcases Bool.or_eq_true_iff.mp h2 with h3 | h3
          · have h4 : k.toNat = 1 := by have := beq_iff_eq.mp h3; omega
            rw [h4]
            simp
          · have h4 : z.cps.toList = [] := by
              have h5 : z.cps.size = 0 := beq_iff_eq.mp h3
              apply List.eq_nil_of_length_eq_zero
              rw [Array.length_toList]; exact h5
            have h6 : (List.replicate k.toNat z.cps.toList).flatten = [] := by rw [h4]; simp
            rw [h6, ← h4]
        rw [e] at q
        exact q
      · have e2 : List.foldl (· ++ ·) #[] (List.replicate k.toNat z.cps) = (List.replicate k.toNat z.cps.toList).flatten.toArray := by rw [key]; simp
        refine ⟨?_, ⟨.str _, H, I.tok _, ⟨_, rfl⟩, ?_⟩⟩
        · show (List.foldl (· ++ ·) #[] (List.replicate k.toNat z.cps)).size ≤ sizeLine
          rw [e2]; exact hlen
        · rw [e2]; exact q
theorem op_mulU : OpR X (binaryOp .Mult) (rMulU X.K) := OpR.or (r := rMulI) op_mul (OpR.or op_mulS (OpR.or op_rep op_repT))
end
/-! the ints' own -/
def rSubU : R2 := rI0 fun i j => .int (i - j)
def rModU : R2 := rI (fun _ j => 0 < j) fun i j => .int (i % j)
def rDivU : R2 := rI CDivW fun i j => .int (i / j)
def rPowU : R2 := rI CPow fun i j => .int (i ^ j.toNat)
def rLtI : R2 := rI0 fun i j => .bl (decide (i < j))
def rLtS : R2 := fun x y H Q => ∃ i j, x = .str i ∧ y = .str j ∧ Q (.bl (decide (i.cps.toList < j.cps.toList))) H
def rLtU : R2 := fun x y H Q => rLtI x y H Q ∨ rLtS x y H Q
def rLeU : R2 := rI0 fun i j => .bl (decide (i ≤ j))
def rGtU : R2 := rI0 fun i j => .bl (decide (j < i))
def rGeU : R2 := rI0 fun i j => .bl (decide (j ≤ i))
def rEqU (K : PySem.W.Frag) : R2 := fun x y H Q => rEq x y H Q ∨ rEqD K x y H Q
def rNeU (K : PySem.W.Frag) : R2 := fun x y H Q => rNe x y H Q ∨ rNeD K x y H Q
def rInStr : R2 := fun x y H Q => ∃ i j, x = .str i ∧ y = .str j ∧ Q (.bl (!(Builtin.Str.occurrences j i 0 j.length 1).isEmpty)) H
def rNiStr : R2 := fun x y H Q => ∃ i j, x = .str i ∧ y = .str j ∧ Q (.bl (!(!(Builtin.Str.occurrences j i 0 j.length 1).isEmpty))) H
def rInSg : R2 := fun x y H Q => ∃ c z, x = .str ⟨#[c]⟩ ∧ y = .str z ∧ Q (.bl (decide (c ∈ z.cps.toList))) H
def rNiSg : R2 := fun x y H Q => ∃ c z, x = .str ⟨#[c]⟩ ∧ y = .str z ∧ Q (.bl (!decide (c ∈ z.cps.toList))) H
/-- d in a list or a tuple of data -/
def rInG (K : PySem.W.Frag) : R2 := fun x y H Q => ∃ d xs, Dp K H x d ∧ (Dp K H y (.list xs) ∨ Dp K H y (.tuple xs)) ∧ PySem.PyData.plainAll xs = true ∧ PySem.PyData.plain d = true ∧ d.depth ≤ 32 ∧ Q (.bl (xs.any fun z => PyData.eqv z d)) H
def rNiG (K : PySem.W.Frag) : R2 := fun x y H Q => ∃ d xs, Dp K H x d ∧ (Dp K H y (.list xs) ∨ Dp K H y (.tuple xs)) ∧ PySem.PyData.plainAll xs = true ∧ PySem.PyData.plain d = true ∧ d.depth ≤ 32 ∧ Q (.bl (!xs.any fun z => PyData.eqv z d)) H
def rInU (K : PySem.W.Frag) : R2 := fun x y H Q => rInSg x y H Q ∨ rInStr x y H Q ∨ rInG K x y H Q
def rNiU (K : PySem.W.Frag) : R2 := fun x y H Q => rNiSg x y H Q ∨ rNiStr x y H Q ∨ rNiG K x y H Q
def rIsNn : R2 := fun x y H Q => y = .non ∧ Q (.bl (decide (x = .non))) H
def rNtNn : R2 := fun x y H Q => y = .non ∧ Q (.bl (!decide (x = .non))) H
def rIsU : R2 := fun x y H Q => rIsNn x y H Q ∨ rIsB x y H Q
def rNtU : R2 := fun x y H Q => rNtNn x y H Q ∨ rNotB x y H Q
def rLenU (K : PySem.W.Frag) : List V → Hp → VK → Prop := fun xs H Q => ∃ x n, xs = [x] ∧ LenV K x H n ∧ Q (.int (n : Nat)) H
def rSlU (K : PySem.W.Frag) : V → Option Int → Option Int → Hp → VK → Prop := fun x lo hi H Q => rSlS x lo hi H Q ∨ rSlL K x lo hi H Q ∨ rSlA K x lo hi H Q
def rMax2U : List V → Hp → VK → Prop := fun xs H Q => (∃ i j, xs = [.int i, .int j] ∧ Q (.int (if j > i then j else i)) H) ∨ ∃ a b : Str, xs = [.str a, .str b] ∧ Q (.str (if a.cps.toList < b.cps.toList then b else a)) H
def rMin2U : List V → Hp → VK → Prop := fun xs H Q => (∃ i j, xs = [.int i, .int j] ∧ Q (.int (if j < i then j else i)) H) ∨ ∃ a b : Str, xs = [.str a, .str b] ∧ Q (.str (if b.cps.toList < a.cps.toList then b else a)) H
section
variable {X : Cx}
theorem op_subU : OpR X (binaryOp .Sub) rSubU := op_sub
theorem op_modU : OpR X (binaryOp .Mod) rModU := op_mod
theorem op_divU : OpR X (binaryOp .FloorDiv) rDivU := op_fdivW
theorem op_powU : OpR X (binaryOp .Pow) rPowU := op_pow
theorem op_ltU : OpR X (compareOp .Lt) rLtU := OpR.or (r := rLtI) op_lt op_lt_str
theorem op_leU : OpR X (compareOp .LtE) rLeU := op_le
theorem op_gtU : OpR X (compareOp .Gt) rGtU := op_gt
theorem op_geU : OpR X (compareOp .GtE) rGeU := op_ge
theorem op_eqU {k : Nat} (hr : Room k X.A) : OpR X (compareOp .Eq) (rEqU X.K) := OpR.or op_eq (op_eqD hr.units)
theorem op_neU {k : Nat} (hr : Room k X.A) : OpR X (compareOp .NotEq) (rNeU X.K) := OpR.or op_ne (op_neD hr.units)
theorem op_inG {k : Nat} (hr : Room k X.A) : OpR X (compareOp .In) (rInG X.K) := by
  intro pins s σ H x y v u Q I rx ry h
  obtain ⟨d, xs, h1, h2, p1, p2, p3, q⟩ := h
  have hu := hr.units
  obtain ⟨as, r1⟩ := Dp.reads I d x v h1 rx
  have hm : X.A.units + 1 + min (PyData.depthAll xs) d.depth < cLine := by have : min (PyData.depthAll xs) d.depth ≤ d.depth := Nat.min_le_right _ _; omega
  rcases h2 with h2 | h2
  · obtain ⟨bs, r2⟩ := Dp.reads I _ y u h2 ry
    exact PySem.SeqAt.in_list_data r2 r1 p1 p2 hm ⟨.bl _, H, I, rfl, q⟩
  · obtain ⟨bs, r2⟩ := Dp.reads I _ y u h2 ry
    exact PySem.SeqAt.in_tuple_data r2 r1 p1 p2 hm ⟨.bl _, H, I, rfl, q⟩
theorem op_niG {k : Nat} (hr : Room k X.A) : OpR X (compareOp .NotIn) (rNiG X.K) := by
  intro pins s σ H x y v u Q I rx ry h
  obtain ⟨d, xs, h1, h2, p1, p2, p3, q⟩ := h
  have hu := hr.units
  obtain ⟨as, r1⟩ := Dp.reads I d x v h1 rx
  have hm : X.A.units + 1 + min (PyData.depthAll xs) d.depth < cLine := by have : min (PyData.depthAll xs) d.depth ≤ d.depth := Nat.min_le_right _ _; omega
  rcases h2 with h2 | h2
  · obtain ⟨bs, r2⟩ := Dp.reads I _ y u h2 ry
    exact PySem.SeqAt.notIn_list_data r2 r1 p1 p2 hm ⟨.bl _, H, I, rfl, q⟩
  · obtain ⟨bs, r2⟩ := Dp.reads I _ y u h2 ry
    exact PySem.SeqAt.notIn_tuple_data r2 r1 p1 p2 hm ⟨.bl _, H, I, rfl, q⟩
theorem op_inU {k : Nat} (hr : Room k X.A) : OpR X (compareOp .In) (rInU X.K) := OpR.or (r := rInSg) op_in_sign (OpR.or (r := rInStr) op_in_str (op_inG hr))
theorem op_niU {k : Nat} (hr : Room k X.A) : OpR X (compareOp .NotIn) (rNiU X.K) := OpR.or (r := rNiSg) op_notIn_sign (OpR.or (r := rNiStr) op_notin_str (op_niG hr))
theorem op_isU : OpR X (compareOp .Is) rIsU := OpR.or (r := rIsNn) op_isN op_isBl
theorem op_ntU : OpR X (compareOp .IsNot) rNtU := OpR.or (r := rNtNn) op_notN op_notBl
theorem call_lenU : CallR X (.builtin "len") (rLenU X.K) := call_len
theorem sl_U : SlR X (rSlU X.K) := SlR.or sl_str (SlR.or sl_list sl_tupA)
end
section
variable {prog : Program} {w : World} {A : Around} {E : Value → Shared → Prop} {s : Shared}
/-- the two texts by their place -/
def str2 (a b : Str) (i : Nat) : Str := if i = 0 then a else b
theorem str2_at {a b : Str} {t u : Tok} {i : Nat} {v : Value} (h : (#[Value.str a t, Value.str b u])[i]? = some v) : ∃ t', v = .str (str2 a b i) t' := by
  match i, h with
  | 0, h => simp at h; exact ⟨t, by rw [← h]; rfl⟩
  | 1, h => simp at h; exact ⟨u, by rw [← h]; rfl⟩
theorem cmp_strs_gt {P : Nat → Value → Prop} (val : Nat → Str) (hu : A.units + 8 < cLine) (hval : ∀ i v, P i v → ∃ t, v = .str (val i) t) : CmpOf prog w A .Gt P (fun i j => decide ((val j).cps.toList < (val i).cps.toList)) := fun i j vi vj s Q E hi hj h => by
  obtain ⟨t, rfl⟩ := hval i vi hi
  obtain ⟨u, rfl⟩ := hval j vj hj
  refine PySem.W.rcGt_alike (.str (val i)) (.str (val j)) A s _ _ _ _ (.str _ t) (.str _ u) rfl (fun z => nomatch z) (by simp [PyData.depth]; omega) prog w E Q ?_
  rw [PySem.W.dataLt_str]
  exact h
theorem cmp_strs_lt {P : Nat → Value → Prop} (val : Nat → Str) (hu : A.units + 8 < cLine) (hval : ∀ i v, P i v → ∃ t, v = .str (val i) t) : CmpOf prog w A .Lt P (fun i j => decide ((val i).cps.toList < (val j).cps.toList)) := fun i j vi vj s Q E hi hj h => by
  obtain ⟨t, rfl⟩ := hval i vi hi
  obtain ⟨u, rfl⟩ := hval j vj hj
  refine PySem.W.rcLt_alike (.str (val i)) (.str (val j)) A s _ _ _ _ (.str _ t) (.str _ u) rfl (fun z => nomatch z) (by simp [PyData.depth]; omega) prog w E Q ?_
  rw [PySem.W.dataLt_str]
  exact h
theorem max_two_strs {a b : Str} {t u : Tok} {Q : Value → Shared → Prop} (hh : A.handled = none) (hu : A.units + 64 < cLine)
    (h : ∀ h' tk, (∀ c o, s.heap.get? c = some o → h'.get? c = some o) → Q (if a.cps.toList < b.cps.toList then .str b u else .str a t) { s with heap := h', toks := tk }) :
    wpAny (model prog w) A (call (.builtin "max") [.str a t, .str b u]) Q E s := by
  have hT : (s.heap.push { cls := .type "tuple", data := .seq #[.str a t, .str b u] }).IsTuple s.heap.objs.size #[.str a t, .str b u] := ⟨_, Heap.get?_push_size _ rfl, rfl, 0, rfl⟩
  refine call_max_two (wpAny_pyIter_tuple hT ?_)
  have hsz : (s.heap.push { cls := .type "tuple", data := .seq #[.str a t, .str b u] }).objs.size = s.heap.objs.size + 1 := Heap.size_push ..
  refine ⟨_, [_, s.heap.objs.size], [_], _, _, _, _, rfl, PySem.Walks.tuple (A := A.in1) hh _ s.heap.objs.size (by rw [hsz]; exact Nat.ne_of_lt (Nat.lt_succ_self _)) #[.str a t, .str b u],
    ⟨⟨_, Heap.get?_push_size _ rfl, rfl, rfl⟩, hT.push _⟩, fun c hc => ?_, by simp, cmp_strs_gt (str2 a b) (by show A.units + 1 + 8 < _; omega) (fun _ _ => str2_at), fun v h' tk hP hk => ?_⟩
  · show c < ((s.heap.push _).push _).objs.size
    rw [Heap.size_push, hsz]
    rcases List.mem_cons.mp hc with rfl | hc
    · rw [hsz]; exact Nat.lt_succ_self _
    · rcases List.mem_cons.mp hc with rfl | hc
      · exact Nat.lt_succ_of_lt (Nat.lt_succ_self _)
      · cases hc
  · have hold : ∀ c o, s.heap.get? c = some o → h'.get? c = some o := fun c o e => by
      refine hk c o (fun hm => ?_) (Heap.get?_push_of_some _ (Heap.get?_push_of_some _ e))
      rcases List.mem_cons.mp hm with e1 | hm
      · have := Heap.lt_size e; rw [e1, hsz] at this; exact Nat.lt_irrefl _ (Nat.lt_of_succ_lt this)
      · cases hm
    have := h h' tk hold
    have hv : v = if a.cps.toList < b.cps.toList then Value.str b u else Value.str a t := by
      have hP' : (#[Value.str a t, Value.str b u])[argBest (fun i j => decide ((str2 a b j).cps.toList < (str2 a b i).cps.toList)) 1]? = some v := hP
      by_cases hba : a.cps.toList < b.cps.toList
      · have e : argBest (fun i j => decide ((str2 a b j).cps.toList < (str2 a b i).cps.toList)) 1 = 1 := by simp [argBest, str2, hba]
        rw [e] at hP'
        simpa [hba] using hP'.symm
      · have e : argBest (fun i j => decide ((str2 a b j).cps.toList < (str2 a b i).cps.toList)) 1 = 0 := by simp [argBest, str2, hba]
        rw [e] at hP'
        simpa [hba] using hP'.symm
    rw [hv]; exact this
theorem min_two_strs {a b : Str} {t u : Tok} {Q : Value → Shared → Prop} (hh : A.handled = none) (hu : A.units + 64 < cLine)
    (h : ∀ h' tk, (∀ c o, s.heap.get? c = some o → h'.get? c = some o) → Q (if b.cps.toList < a.cps.toList then .str b u else .str a t) { s with heap := h', toks := tk }) :
    wpAny (model prog w) A (call (.builtin "min") [.str a t, .str b u]) Q E s := by
  have hT : (s.heap.push { cls := .type "tuple", data := .seq #[.str a t, .str b u] }).IsTuple s.heap.objs.size #[.str a t, .str b u] := ⟨_, Heap.get?_push_size _ rfl, rfl, 0, rfl⟩
  refine call_min_two (wpAny_pyIter_tuple hT ?_)
  have hsz : (s.heap.push { cls := .type "tuple", data := .seq #[.str a t, .str b u] }).objs.size = s.heap.objs.size + 1 := Heap.size_push ..
  refine ⟨_, [_, s.heap.objs.size], [_], _, _, _, _, rfl, PySem.Walks.tuple (A := A.in1) hh _ s.heap.objs.size (by rw [hsz]; exact Nat.ne_of_lt (Nat.lt_succ_self _)) #[.str a t, .str b u],
    ⟨⟨_, Heap.get?_push_size _ rfl, rfl, rfl⟩, hT.push _⟩, fun c hc => ?_, by simp, cmp_strs_lt (str2 a b) (by show A.units + 1 + 8 < _; omega) (fun _ _ => str2_at), fun v h' tk hP hk => ?_⟩
  · show c < ((s.heap.push _).push _).objs.size
    rw [Heap.size_push, hsz]
    rcases List.mem_cons.mp hc with rfl | hc
    · rw [hsz]; exact Nat.lt_succ_self _
    · rcases List.mem_cons.mp hc with rfl | hc
      · exact Nat.lt_succ_of_lt (Nat.lt_succ_self _)
      · cases hc
  · have hold : ∀ c o, s.heap.get? c = some o → h'.get? c = some o := fun c o e => by
      refine hk c o (fun hm => ?_) (Heap.get?_push_of_some _ (Heap.get?_push_of_some _ e))
      rcases List.mem_cons.mp hm with e1 | hm
      · have := Heap.lt_size e; rw [e1, hsz] at this; exact Nat.lt_irrefl _ (Nat.lt_of_succ_lt this)
      · cases hm
    have := h h' tk hold
    have hv : v = if b.cps.toList < a.cps.toList then Value.str b u else Value.str a t := by
      have hP' : (#[Value.str a t, Value.str b u])[argBest (fun i j => decide ((str2 a b i).cps.toList < (str2 a b j).cps.toList)) 1]? = some v := hP
      by_cases hba : b.cps.toList < a.cps.toList
      · have e : argBest (fun i j => decide ((str2 a b i).cps.toList < (str2 a b j).cps.toList)) 1 = 1 := by simp [argBest, str2, hba]
        rw [e] at hP'
        simpa [hba] using hP'.symm
      · have e : argBest (fun i j => decide ((str2 a b i).cps.toList < (str2 a b j).cps.toList)) 1 = 0 := by simp [argBest, str2, hba]
        rw [e] at hP'
        simpa [hba] using hP'.symm
    rw [hv]; exact this
end
section
variable {X : Cx}
theorem call_max2S (hc : X.calm = true) (hu : X.A.units + 64 < cLine) : CallR X (.builtin "max") (fun xs H Q => ∃ a b : Str, xs = [.str a, .str b] ∧ Q (.str (if a.cps.toList < b.cps.toList then b else a)) H) := by
  intro pins s σ H xs us Q I r h
  obtain ⟨i, j, rfl, q⟩ := h
  obtain ⟨u, w', rfl, ⟨t, rfl⟩, ⟨t', rfl⟩⟩ := vals2 r
  refine max_two_strs (I.ok.hd hc) hu fun h' tk k => ⟨_, H, I.kept k, ?_, q⟩
  by_cases hj : i.cps.toList < j.cps.toList
  · rw [if_pos hj, if_pos hj]; exact ⟨_, rfl⟩
  · rw [if_neg hj, if_neg hj]; exact ⟨_, rfl⟩
theorem call_min2S (hc : X.calm = true) (hu : X.A.units + 64 < cLine) : CallR X (.builtin "min") (fun xs H Q => ∃ a b : Str, xs = [.str a, .str b] ∧ Q (.str (if b.cps.toList < a.cps.toList then b else a)) H) := by
  intro pins s σ H xs us Q I r h
  obtain ⟨i, j, rfl, q⟩ := h
  obtain ⟨u, w', rfl, ⟨t, rfl⟩, ⟨t', rfl⟩⟩ := vals2 r
  refine min_two_strs (I.ok.hd hc) hu fun h' tk k => ⟨_, H, I.kept k, ?_, q⟩
  by_cases hj : j.cps.toList < i.cps.toList
  · rw [if_pos hj, if_pos hj]; exact ⟨_, rfl⟩
  · rw [if_neg hj, if_neg hj]; exact ⟨_, rfl⟩
theorem call_max2U {k : Nat} (hr : Room k X.A) (hc : X.calm = true) : CallR X (.builtin "max") rMax2U := fun pins s σ H xs us Q I r h => h.elim (fun h => call_max2 hc pins s σ H xs us Q I r h) (fun h => call_max2S hc hr.units pins s σ H xs us Q I r h)
theorem call_min2U {k : Nat} (hr : Room k X.A) (hc : X.calm = true) : CallR X (.builtin "min") rMin2U := fun pins s σ H xs us Q I r h => h.elim (fun h => call_min2 hc pins s σ H xs us Q I r h) (fun h => call_min2S hc hr.units pins s σ H xs us Q I r h)
end
/-! ### told over data -/
section
variable {K : PySem.W.Frag}
theorem vdt {B H H' : Hp} {v : V} {d : PyData} (h : Dd K B v d) : VRel K B H H' v (.dt d) := h
theorem od_add_int {i j : Int} : OpD K (rAddU K) (.int i) (.int j) (.dt (.int (i + j))) := fun B H v u e hx hy Q q => by
  cases hx; cases hy
  exact .inl ⟨i, j, rfl, rfl, q _ B H (Step.refl e) (.int _)⟩
theorem od_add_str {a b : Str} (hz : a.length + b.length ≤ sizeLine) : OpD K (rAddU K) (.str a) (.str b) (.dt (.str (a ++ b))) := fun B H v u e hx hy Q q => by
  cases hx; cases hy
  exact .inr (.inl ⟨a, b, rfl, rfl, hz, q _ B H (Step.refl e) (.str _)⟩)
theorem od_add_list {xs ys : List PyData} (hz : xs.length + ys.length ≤ sizeLine) : OpD K (rAddU K) (.list xs) (.list ys) (.ls (xs ++ ys)) := fun B H v u e hx hy Q q => by
  cases hx with
  | lst h1 a1 =>
    cases hy with
    | lst h2 a2 =>
      refine .inr (.inr (.inl ⟨_, _, _, _, rfl, rfl, e _ _ h1, e _ _ h2, by rw [dps_len a1, dps_len a2]; exact hz, fun p hp => q _ _ _ (Step.own e hp) ?_⟩))
      exact ⟨p, _, rfl, hp, upd_same, Same.free e hp, _, rfl, dps_app a1 a2⟩
theorem od_add_tup {xs ys : List PyData} (hz : xs.length + ys.length ≤ sizeLine) : OpD K (rAddU K) (.tuple xs) (.tuple ys) (.dt (.tuple (xs ++ ys))) := fun B H v u e hx hy Q q => by
  cases hx with
  | tup h1 a1 =>
    cases hy with
    | tup h2 a2 =>
      refine .inr (.inr (.inr ⟨_, _, _, _, rfl, rfl, st_same e h1, st_same e h2, by rw [dps_len a1, dps_len a2]; exact hz, fun z => ?_, fun _ z => ?_, fun _ _ p hp => q _ _ _ (Step.new e hp) ?_⟩))
      · subst z
        cases a1
        exact q _ B H (Step.refl e) (.tup h2 a2)
      · subst z
        cases a2
        rw [List.append_nil] at q
        exact q _ B H (Step.refl e) (.tup h1 a1)
      · exact .tup (.inl (.inl upd_same)) (dps_same (same_upd (Same.free e hp)) _ _ (dps_app a1 a2))
theorem od_mul_int {i j : Int} (hc : CMul i j) : OpD K (rMulU K) (.int i) (.int j) (.dt (.int (i * j))) := fun B H v u e hx hy Q q => by
  cases hx; cases hy
  exact .inl ⟨i, j, rfl, rfl, hc, q _ B H (Step.refl e) (.int _)⟩
theorem od_mul_str {z : Str} {k : Int} (h0 : 0 ≤ k) (hz : z.length * k.toNat ≤ sizeLine) (hk : k ≤ sizeLine) : OpD K (rMulU K) (.str z) (.int k) (.dt (.str ⟨(List.replicate k.toNat z.cps.toList).flatten.toArray⟩)) := fun B H v u e hx hy Q q => by
  cases hx; cases hy
  exact .inr (.inl ⟨z, k, rfl, rfl, h0, hz, hk, q _ B H (Step.refl e) (.str _)⟩)
theorem dps_rep {B : Hp} {xs : List PyData} {vs : List V} (h : DdAll K B vs xs) : ∀ n : Nat, DdAll K B (List.replicate n vs).flatten (List.replicate n xs).flatten
  | 0 => .nil
  | n + 1 => by
    rw [List.replicate_succ, List.replicate_succ, List.flatten_cons, List.flatten_cons]
    exact dps_app h (dps_rep h n)
theorem od_mul_list {xs : List PyData} {k : Int} (h1 : -(2 ^ 63) ≤ k) (h2 : k < 2 ^ 63) (hz : xs.length * k.toNat ≤ sizeLine) : OpD K (rMulU K) (.list xs) (.int k) (.ls (List.replicate k.toNat xs).flatten) := fun B H v u e hx hy Q q => by
  cases hy
  cases hx with
  | lst g1 a1 =>
    refine .inr (.inr (.inl ⟨_, k, _, rfl, rfl, e _ _ g1, h1, h2, by rw [dps_len a1]; exact hz, fun p hp => q _ _ _ (Step.own e hp) ?_⟩))
    exact ⟨p, _, rfl, hp, upd_same, Same.free e hp, _, rfl, dps_rep a1 _⟩
theorem od_sub {i j : Int} : OpD K rSubU (.int i) (.int j) (.dt (.int (i - j))) := fun B H v u e hx hy Q q => by
  cases hx; cases hy
  exact ⟨i, j, rfl, rfl, q _ B H (Step.refl e) (.int _)⟩
theorem od_mod {i j : Int} (hj : 0 < j) : OpD K rModU (.int i) (.int j) (.dt (.int (i % j))) := fun B H v u e hx hy Q q => by
  cases hx; cases hy
  exact ⟨i, j, rfl, rfl, hj, q _ B H (Step.refl e) (.int _)⟩
theorem od_div {i j : Int} (hj : CDivW i j) : OpD K rDivU (.int i) (.int j) (.dt (.int (i / j))) := fun B H v u e hx hy Q q => by
  cases hx; cases hy
  exact ⟨i, j, rfl, rfl, hj, q _ B H (Step.refl e) (.int _)⟩
theorem od_pow {i j : Int} (hj : CPow i j) : OpD K rPowU (.int i) (.int j) (.dt (.int (i ^ j.toNat))) := fun B H v u e hx hy Q q => by
  cases hx; cases hy
  exact ⟨i, j, rfl, rfl, hj, q _ B H (Step.refl e) (.int _)⟩
theorem od_lt {i j : Int} : OpD K rLtU (.int i) (.int j) (.dt (.bool (decide (i < j)))) := fun B H v u e hx hy Q q => by
  cases hx; cases hy
  exact .inl ⟨i, j, rfl, rfl, q _ B H (Step.refl e) (.bl _)⟩
theorem od_lts {a b : Str} : OpD K rLtU (.str a) (.str b) (.dt (.bool (decide (a.cps.toList < b.cps.toList)))) := fun B H v u e hx hy Q q => by
  cases hx; cases hy
  exact .inr ⟨a, b, rfl, rfl, q _ B H (Step.refl e) (.bl _)⟩
theorem od_le {i j : Int} : OpD K rLeU (.int i) (.int j) (.dt (.bool (decide (i ≤ j)))) := fun B H v u e hx hy Q q => by
  cases hx; cases hy
  exact ⟨i, j, rfl, rfl, q _ B H (Step.refl e) (.bl _)⟩
theorem od_gt {i j : Int} : OpD K rGtU (.int i) (.int j) (.dt (.bool (decide (j < i)))) := fun B H v u e hx hy Q q => by
  cases hx; cases hy
  exact ⟨i, j, rfl, rfl, q _ B H (Step.refl e) (.bl _)⟩
theorem od_ge {i j : Int} : OpD K rGeU (.int i) (.int j) (.dt (.bool (decide (j ≤ i)))) := fun B H v u e hx hy Q q => by
  cases hx; cases hy
  exact ⟨i, j, rfl, rfl, q _ B H (Step.refl e) (.bl _)⟩
theorem od_eq_int {i j : Int} : OpD K (rEqU K) (.int i) (.int j) (.dt (.bool (decide (i = j)))) := fun B H v u e hx hy Q q => by
  cases hx; cases hy
  refine .inl ⟨rfl, ?_⟩
  have z : decide (V.int i = V.int j) = decide (i = j) := by simp
  rw [z]
  exact q _ B H (Step.refl e) (.bl _)
theorem od_eq_str {a b : Str} : OpD K (rEqU K) (.str a) (.str b) (.dt (.bool (decide (a = b)))) := fun B H v u e hx hy Q q => by
  cases hx; cases hy
  refine .inl ⟨rfl, ?_⟩
  have z : decide (V.str a = V.str b) = decide (a = b) := by simp
  rw [z]
  exact q _ B H (Step.refl e) (.bl _)
theorem od_eq_bool {a b : Bool} : OpD K (rEqU K) (.bool a) (.bool b) (.dt (.bool (decide (a = b)))) := fun B H v u e hx hy Q q => by
  cases hx; cases hy
  refine .inl ⟨rfl, ?_⟩
  have z : decide (V.bl a = V.bl b) = decide (a = b) := by simp
  rw [z]
  exact q _ B H (Step.refl e) (.bl _)
theorem od_ne_int {i j : Int} : OpD K (rNeU K) (.int i) (.int j) (.dt (.bool (!decide (i = j)))) := fun B H v u e hx hy Q q => by
  cases hx; cases hy
  refine .inl ⟨rfl, ?_⟩
  have z : decide (V.int i = V.int j) = decide (i = j) := by simp
  rw [z]
  exact q _ B H (Step.refl e) (.bl _)
theorem od_ne_str {a b : Str} : OpD K (rNeU K) (.str a) (.str b) (.dt (.bool (!decide (a = b)))) := fun B H v u e hx hy Q q => by
  cases hx; cases hy
  refine .inl ⟨rfl, ?_⟩
  have z : decide (V.str a = V.str b) = decide (a = b) := by simp
  rw [z]
  exact q _ B H (Step.refl e) (.bl _)
theorem od_ne_bool {a b : Bool} : OpD K (rNeU K) (.bool a) (.bool b) (.dt (.bool (!decide (a = b)))) := fun B H v u e hx hy Q q => by
  cases hx; cases hy
  refine .inl ⟨rfl, ?_⟩
  have z : decide (V.bl a = V.bl b) = decide (a = b) := by simp
  rw [z]
  exact q _ B H (Step.refl e) (.bl _)
theorem shaped_lay {d : PyData} (h : SeqAt.shaped d = true) : d.canLay0 = true := by
  unfold SeqAt.shaped at h
  exact (Bool.and_eq_true_iff.mp h).1
theorem od_eqD {x y : PyData} (h1 : SeqAt.shaped x = true) (h2 : SeqAt.shaped y = true) : OpD K (rEqU K) x y (.dt (.bool (PyData.eqv x y))) := fun B H v u e hx hy Q q =>
  .inr ⟨x, y, dd_dp _ _ (shaped_lay h1) (dp_same e _ _ hx), dd_dp _ _ (shaped_lay h2) (dp_same e _ _ hy), h1, h2, q _ B H (Step.refl e) (.bl _)⟩
theorem od_neD {x y : PyData} (h1 : SeqAt.shaped x = true) (h2 : SeqAt.shaped y = true) : OpD K (rNeU K) x y (.dt (.bool (!PyData.eqv x y))) := fun B H v u e hx hy Q q =>
  .inr ⟨x, y, dd_dp _ _ (shaped_lay h1) (dp_same e _ _ hx), dd_dp _ _ (shaped_lay h2) (dp_same e _ _ hy), h1, h2, q _ B H (Step.refl e) (.bl _)⟩
def isNone : PyData → Bool
  | .none => true
  | _ => false
theorem isNone_dec {B : Hp} {v : V} {d : PyData} (h : Dd K B v d) : decide (v = .non) = isNone d := by
  cases h <;> first | rfl | exact decide_eq_false (fun z => nomatch z)
theorem od_isN {x : PyData} : OpD K rIsU x .none (.dt (.bool (isNone x))) := fun B H v u e hx hy Q q => by
  cases hy
  refine .inl ⟨rfl, ?_⟩
  rw [isNone_dec hx]
  exact q _ B H (Step.refl e) (.bl _)
theorem od_ntN {x : PyData} : OpD K rNtU x .none (.dt (.bool (!isNone x))) := fun B H v u e hx hy Q q => by
  cases hy
  refine .inl ⟨rfl, ?_⟩
  rw [isNone_dec hx]
  exact q _ B H (Step.refl e) (.bl _)
theorem od_isB {a b : Bool} : OpD K rIsU (.bool a) (.bool b) (.dt (.bool (decide (a = b)))) := fun B H v u e hx hy Q q => by
  cases hx; cases hy
  exact .inr ⟨a, b, rfl, rfl, q _ B H (Step.refl e) (.bl _)⟩
theorem od_ntB {a b : Bool} : OpD K rNtU (.bool a) (.bool b) (.dt (.bool (!decide (a = b)))) := fun B H v u e hx hy Q q => by
  cases hx; cases hy
  exact .inr ⟨a, b, rfl, rfl, q _ B H (Step.refl e) (.bl _)⟩
/-! len -/
def lenD : PyData → Option Nat
  | .str z => some z.length
  | .list xs => some xs.length
  | .tuple xs => some xs.length
  | _ => none
theorem cd_len {d : PyData} {n : Nat} (h : lenD d = some n) (hz : ∀ z, d = .str z → z.length ≤ sizeLine) : CbD K (rLenU K) [d] (.dt (.int n)) := fun B H vs e hx Q q => by
  cases hx with
  | cons hd hn =>
    cases hn
    cases hd with
    | str z => cases h; exact ⟨_, _, rfl, ⟨hz z rfl, rfl⟩, q _ B H (Step.refl e) (.int _)⟩
    | lst h1 a1 => cases h; exact ⟨_, _, rfl, .inl ⟨_, SqL.of (e _ _ h1), rfl⟩, q _ B H (Step.refl e) (by rw [dps_len a1]; exact .int _)⟩
    | tup h1 a1 => cases h; exact ⟨_, _, rfl, .inr ⟨_, st_same e h1, rfl⟩, q _ B H (Step.refl e) (by rw [dps_len a1]; exact .int _)⟩
    | _ => cases h
/-! items -/
theorem atI_dps {B : Hp} {xs : List PyData} {vs : List V} {i : Int} {d : PyData} (h : DdAll K B vs xs) (hd : atI xs i = some d) : ∃ v, atI vs i = some v ∧ Dd K B v d := by
  unfold atI at hd ⊢
  rw [dps_len h]
  cases e : ixN xs.length i with
  | none => rw [e] at hd; cases hd
  | some j =>
    rw [e] at hd
    obtain ⟨v, h1, h2⟩ := dps_get h (show xs[j]? = some d from hd)
    exact ⟨v, h1, h2⟩
theorem od_ix_list {xs : List PyData} {i : Int} {d : PyData} (h : atI xs i = some d) : OpD K (rIx K) (.list xs) (.int i) (.dt d) := fun B H v u e hx hy Q q => by
  cases hy
  cases hx with
  | lst h1 a1 =>
    obtain ⟨v, h2, h3⟩ := atI_dps a1 h
    exact .inl ⟨_, _, i, v, rfl, rfl, SqL.of (e _ _ h1), h2, q _ B H (Step.refl e) h3⟩
theorem od_ix_tup {xs : List PyData} {i : Int} {d : PyData} (h : atI xs i = some d) : OpD K (rIx K) (.tuple xs) (.int i) (.dt d) := fun B H v u e hx hy Q q => by
  cases hy
  cases hx with
  | tup h1 a1 =>
    obtain ⟨v, h2, h3⟩ := atI_dps a1 h
    exact .inr (.inl ⟨_, _, i, v, rfl, rfl, st_same e h1, h2, q _ B H (Step.refl e) h3⟩)
theorem od_ix_str {z : Str} {i : Int} {c : Nat} (hz : z.length ≤ sizeLine) (h : atI z.cps.toList i = some c) : OpD K (rIx K) (.str z) (.int i) (.dt (.str ⟨#[c]⟩)) := fun B H v u e hx hy Q q => by
  cases hx; cases hy
  exact .inr (.inr ⟨z, i, c, rfl, rfl, hz, h, q _ B H (Step.refl e) (.str _)⟩)
/-! slices -/
def cutD (xs : List PyData) (lo hi : Option Int) : List PyData := (xs.drop (HT.sIx xs.length 0 lo)).take (HT.sIx xs.length xs.length hi - HT.sIx xs.length 0 lo)
theorem cut_dps {B : Hp} {xs : List PyData} {vs : List V} (lo hi : Option Int) (h : DdAll K B vs xs) : DdAll K B (cutV vs lo hi) (cutD xs lo hi) := by
  unfold cutV cutD
  rw [dps_len h]
  exact dps_take _ (dps_drop _ h)
theorem sd_str {z : Str} {lo hi : Option Int} (hz : z.length ≤ sizeLine) : SlcD K (rSlU K) (.str z) lo hi (.dt (.str (cutS z lo hi))) := fun B H v e hx Q q => by
  cases hx
  exact .inl ⟨z, rfl, hz, q _ B H (Step.refl e) (.str _)⟩
theorem sd_list {xs : List PyData} {lo hi : Option Int} : SlcD K (rSlU K) (.list xs) lo hi (.ls (cutD xs lo hi)) := fun B H v e hx Q q => by
  cases hx with
  | lst h1 a1 => exact .inr (.inl ⟨_, _, rfl, SqL.of (e _ _ h1), fun p hp => q _ _ _ (Step.own e hp) ⟨p, _, rfl, hp, upd_same, Same.free e hp, _, rfl, cut_dps lo hi a1⟩⟩)
theorem sd_tup {xs : List PyData} {lo hi : Option Int} : SlcD K (rSlU K) (.tuple xs) lo hi (.dt (.tuple (cutD xs lo hi))) := fun B H v e hx Q q => by
  cases hx with
  | tup h1 a1 =>
    refine .inr (.inr ⟨_, _, rfl, st_same e h1, fun z => q _ B H (Step.refl e) ?_, fun _ p hp => q _ _ _ (Step.new e hp) ?_⟩)
    · have e2 : cutD xs lo hi = xs := by
        unfold cutD
        rw [← dps_len a1, z.1, z.2, List.drop_zero, Nat.sub_zero, dps_len a1, List.take_length]
      rw [e2]
      exact .tup h1 a1
    · exact .tup (.inl (.inl upd_same)) (dps_same (same_upd (Same.free e hp)) _ _ (cut_dps lo hi a1))
/-! max, min of two ints -/
theorem cd_max2 {i j : Int} : CbD K rMax2U [.int i, .int j] (.dt (.int (if j > i then j else i))) := fun B H vs e hx Q q => by
  cases hx with
  | cons h1 h2 =>
    cases h2 with
    | cons h2 h3 =>
      cases h3; cases h1; cases h2
      exact .inl ⟨i, j, rfl, q _ B H (Step.refl e) (.int _)⟩
theorem cd_max2s {a b : Str} : CbD K rMax2U [.str a, .str b] (.dt (.str (if a.cps.toList < b.cps.toList then b else a))) := fun B H vs e hx Q q => by
  cases hx with
  | cons h1 h2 =>
    cases h2 with
    | cons h2 h3 =>
      cases h3; cases h1; cases h2
      exact .inr ⟨a, b, rfl, q _ B H (Step.refl e) (.str _)⟩
theorem cd_min2s {a b : Str} : CbD K rMin2U [.str a, .str b] (.dt (.str (if b.cps.toList < a.cps.toList then b else a))) := fun B H vs e hx Q q => by
  cases hx with
  | cons h1 h2 =>
    cases h2 with
    | cons h2 h3 =>
      cases h3; cases h1; cases h2
      exact .inr ⟨a, b, rfl, q _ B H (Step.refl e) (.str _)⟩
theorem cd_min2 {i j : Int} : CbD K rMin2U [.int i, .int j] (.dt (.int (if j < i then j else i))) := fun B H vs e hx Q q => by
  cases hx with
  | cons h1 h2 =>
    cases h2 with
    | cons h2 h3 =>
      cases h3; cases h1; cases h2
      exact .inl ⟨i, j, rfl, q _ B H (Step.refl e) (.int _)⟩
/-! all, any of a list of bools -/
theorem dps_bools {B : Hp} : ∀ {bs : List Bool} {vs : List V}, DdAll K B vs (bs.map PyData.bool) → vs = bs.map V.bl
  | [], _, h => by cases h; rfl
  | b :: bs, _, h => by
    cases h with
    | cons h1 h2 => cases h1; rw [dps_bools h2]; rfl
theorem cd_all {bs : List Bool} : CbD K (rAll K) [.list (bs.map PyData.bool)] (.dt (.bool (bs.all id))) := fun B H vs e hx Q q => by
  cases hx with
  | cons h1 h2 =>
    cases h2
    cases h1 with
    | lst g1 a1 =>
      have z := dps_bools a1
      subst z
      exact ⟨_, bs, rfl, SqL.of (e _ _ g1), q _ B H (Step.refl e) (.bl _)⟩
theorem cd_any {bs : List Bool} : CbD K (rAny K) [.list (bs.map PyData.bool)] (.dt (.bool (bs.any id))) := fun B H vs e hx Q q => by
  cases hx with
  | cons h1 h2 =>
    cases h2
    cases h1 with
    | lst g1 a1 =>
      have z := dps_bools a1
      subst z
      exact ⟨_, bs, rfl, SqL.of (e _ _ g1), q _ B H (Step.refl e) (.bl _)⟩
/-! isinstance, against a built-in class -/
def tyOf : PyData → String
  | .none => "NoneType"
  | .bool _ => "bool"
  | .int _ => "int"
  | .str _ => "str"
  | .list _ => "list"
  | .tuple _ => "tuple"
  | .dict _ => "dict"
def tyIs (a b : String) : Bool := a == b || (a == "bool" && b == "int")
theorem dp_ty {H : Hp} {v : V} {d : PyData} (h : Dd K H v d) (hd : ∀ z, d ≠ .dict z) : TyX K H v (.type (tyOf d)) := by
  cases h with
  | non => exact .base .non
  | bl b => exact .base (.bl b)
  | int i => exact .base (.int i)
  | str z => exact .base (.str z)
  | lst h1 _ => exact .base (.lst h1)
  | tup h1 _ =>
    rcases h1 with (h1 | ⟨o, h1⟩) | ⟨o, _, _, h1, h2, _⟩
    · exact .base (.tup h1)
    · exact .fTuple h1
    · exact .kTuple h1 h2
  | scr _ => exact absurd rfl (hd _)
  | ref _ => exact absurd rfl (hd _)
  | dic _ _ _ => exact absurd rfl (hd _)
theorem kit_tys {a b : String} (ha : a ∈ ["NoneType", "bool", "int", "str", "list", "tuple"]) (hb : b ∈ ["bool", "int", "str", "list", "tuple"]) : PySem.W.kitOne K (.type a) (.type b) = some (tyIs a b) := by
  simp only [List.mem_cons, List.not_mem_nil, or_false] at ha hb
  rcases ha with rfl | rfl | rfl | rfl | rfl | rfl <;> rcases hb with rfl | rfl | rfl | rfl | rfl <;> exact kit_ty (by decide +kernel)
theorem ev_isi {τ : Tau} {te : TE} {d : PyData} {n : String} (h : EvS K te τ d) (hn : n ∈ ["bool", "int", "str", "list", "tuple"]) (hd : ∀ z, d ≠ .dict z) : EvX K (tCB (rIsi K) (tCons te (tCons (tC (.ty n)) tNil))) τ (.dt (.bool (tyIs (tyOf d) n))) := fun σ B H hs e Q q =>
  h σ B H hs e _ fun v B1 H1 s1 d1 => ⟨v, .ty n, .type (tyOf d), .type n, _, rfl, .ty n, dp_ty (dp_same s1.i _ _ d1) hd, kit_tys (by
    cases d with
    | dict z => exact absurd rfl (hd z)
    | _ => simp [tyOf]) hn, q _ B1 H1 s1 (.bl _)⟩
end
/-! ### s[::-1], s a text -/
def tRevS (te : TE) : TE := fun σ H Q => te σ H fun x H1 => ∃ z, x = .str z ∧ z.length ≤ sizeLine ∧ Q (.str ⟨z.cps.toList.reverse.toArray⟩) H1
section
variable {X : Cx}
theorem fm_map {α β : Type} {f : α → Option β} {g : α → β} : ∀ (ks : List α), (∀ k ∈ ks, f k = some (g k)) → ks.filterMap f = ks.map g
  | [], _ => rfl
  | k :: ks, h => by
    rw [List.filterMap_cons, h k List.mem_cons_self, List.map_cons, fm_map ks fun j hj => h j (List.mem_cons_of_mem _ hj)]
theorem pick_rev (x : Str) : ((List.range x.cps.size).map fun k => x.cps.size - 1 - k).filterMap (x.cps[·]?) = x.cps.toList.reverse := by
  have e : ((List.range x.cps.size).map fun k => x.cps.size - 1 - k).filterMap (x.cps[·]?) = ((List.range x.cps.size).map fun k => x.cps.size - 1 - k).map fun j => x.cps.toList.getD j 0 := by
    refine fm_map _ fun j hj => ?_
    obtain ⟨k, hk, rfl⟩ := List.mem_map.mp hj
    have hk := List.mem_range.mp hk
    have hlt : x.cps.size - 1 - k < x.cps.size := by omega
    rw [Array.getElem?_eq_getElem hlt, List.getD_eq_getElem?_getD, Array.getElem?_toList, Array.getElem?_eq_getElem hlt]
    rfl
  rw [e, List.map_map]
  apply List.ext_getElem?
  intro i
  rw [List.getElem?_map]
  by_cases hi : i < x.cps.size
  · have h2 : i < x.cps.toList.length := by rw [Array.length_toList]; exact hi
    rw [List.getElem?_range hi, List.getElem?_reverse h2, Array.length_toList]
    have hlt : x.cps.size - 1 - i < x.cps.size := by omega
    show some (x.cps.toList.getD (x.cps.size - 1 - i) 0) = _
    rw [List.getD_eq_getElem?_getD, Array.getElem?_toList, Array.getElem?_eq_getElem hlt]
    rfl
  · rw [List.getElem?_eq_none (by rw [List.length_range]; omega), List.getElem?_eq_none (by rw [List.length_reverse, Array.length_toList]; omega)]
    rfl
theorem pe_revS {e : Expr} {te : TE} {k : Nat} {p1 p2 p3 pos : Pos} (he : PE X e te) : PE X (.Subscript e (.Slice none none (some (.UnaryOp .USub (.Constant (.int 1) k p1) p2)) p3) pos) (tRevS te) := by
  refine ⟨fun pins s σ H Q I h => ?_⟩
  refine PyProof.Rows.Subscript_ (thn (he.run pins s σ H _ I h) fun v s1 ⟨x, H1, I1, r1, q1⟩ => ?_)
  have hst : PO X (some (.UnaryOp .USub (.Constant (.int 1) k p1) p2)) (tPart (tUn (rU fun i => .int (-i)) (tC (.int 1)))) := po_some (pe_un un_neg pe_int)
  refine wpAny_Slice (thn (po_none.run pins s1 σ H1 (fun o H2 => o = none ∧ H2 = H1) I1 ⟨rfl, rfl⟩) fun vl s2 ⟨l, H2, I2, pl, el, e2⟩ => ?_)
  subst el e2
  refine thn (po_none.run pins s2 σ H2 (fun o H3 => o = none ∧ H3 = H2) I2 ⟨rfl, rfl⟩) fun vu s3 ⟨u, H3, I3, pu, eu, e3⟩ => ?_
  subst eu e3
  refine thn (hst.run pins s3 σ H3 (fun o H4 => o = some (-1) ∧ H4 = H3) I3 ⟨1, rfl, -1, rfl, rfl, rfl⟩) fun vs s4 ⟨o, H4, I4, ps, eo, e4⟩ => ?_
  subst eo e4
  have I5 : Inv X pins σ H4 { s4 with heap := s4.heap.push { cls := .type "slice", data := .fields #[vl, vu, vs] } } := I4.kept (t' := s4.toks) fun b ob q => Heap.get?_push_of_some _ q
  obtain ⟨z, ex, hz, q⟩ := q1
  subst ex
  obtain ⟨t, rfl⟩ := r1
  obtain ⟨l, rfl, hl⟩ := IsPart.raw pl
  obtain ⟨u, rfl, hu⟩ := IsPart.raw pu
  obtain ⟨st, rfl, hst⟩ := IsPart.raw ps
  show wpAny (model X.prog X.w) X.A (PyProof.Rows.subscriptTail e (.Slice none none (some (.UnaryOp .USub (.Constant (.int 1) k p1) p2)) p3) (.str z t) (.ref s4.heap.objs.size)) (EP X pins σ Q) X.xe { s4 with heap := s4.heap.push { cls := .type "slice", data := .fields #[partValue l, partValue u, partValue st] } }
  refine PyProof.Rows.tail_any (ops := [.str z t, .ref s4.heap.objs.size]) (typeIs_str _ z t) F.slot_str_getitem.lookup ?_ (by with_unfolding_all rfl)
  refine wpAny_getItem_str_slice (l := l) (u := u) (st := st) ⟨_, Heap.get?_push_size _ rfl, rfl, rfl⟩ (by rw [hst] <;> rfl) ?_
  have hp : slicePicked z l u st = (List.range z.cps.size).map fun k => z.cps.size - 1 - k := by
    unfold slicePicked
    rw [hl, hu, hst]
    exact PySem.W.krv_sliceRange z.cps.size
  unfold sliceMade
  rw [hst, if_neg (by simp), hp, pick_rev]
  refine ⟨?_, ⟨.str _, H4, I5.tok _, ⟨_, rfl⟩, q⟩⟩
  show (z.cps.toList.reverse.toArray).size ≤ sizeLine
  rw [List.size_toArray, List.length_reverse, Array.length_toList]
  exact hz
end
section
variable {K : PySem.W.Frag} {τ : Tau} {te : TE}
theorem ev_revS {z : Str} (h : EvS K te τ (.str z)) (hz : z.length ≤ sizeLine) : EvX K (tRevS te) τ (.dt (.str ⟨z.cps.toList.reverse.toArray⟩)) := fun σ B H hs e Q q => h σ B H hs e _ fun v B1 H1 s1 d1 => by
  have d1 : Dd K B1 v (.str z) := d1
  cases d1
  exact ⟨z, rfl, hz, q _ B1 H1 s1 (.str _)⟩
theorem ev_revL {xs : List PyData} (h : EvS K te τ (.list xs)) : EvX K (tRevL K te) τ (.ls xs.reverse) := fun σ B H hs e Q q => h σ B H hs e _ fun v B1 H1 s1 d1 => by
  have d1 : Dd K B1 v (.list xs) := d1
  cases d1 with
  | lst h1 a1 => exact ⟨_, _, rfl, SqL.of (s1.i _ _ h1), fun p hp => q _ _ _ (s1.trans (Step.own s1.i hp)) ⟨p, _, rfl, Same.free s1.h hp, upd_same, Same.free s1.i hp, _, rfl, dps_rev a1⟩⟩
/-! how data is shaped -/
def Sh (n : Nat) (d : PyData) : Prop := d.canLay0 = true ∧ d.depth ≤ n
theorem Sh.ok {n : Nat} {d : PyData} (h : Sh n d) (hn : n ≤ 64) : SeqAt.shaped d = true := by
  unfold SeqAt.shaped
  rw [h.1, decide_eq_true (Nat.le_trans h.2 hn)]
  rfl
theorem sh_int {i : Int} : Sh 1 (.int i) := ⟨by simp [PyData.canLay0], by simp [PyData.depth]⟩
theorem sh_bool {b : Bool} : Sh 1 (.bool b) := ⟨by simp [PyData.canLay0], by simp [PyData.depth]⟩
theorem sh_none : Sh 1 .none := ⟨by simp [PyData.canLay0], by simp [PyData.depth]⟩
theorem sh_str {z : Str} (h : PyData.strOk z = true) : Sh 1 (.str z) := ⟨by simpa [PyData.canLay0] using h, by simp [PyData.depth]⟩
theorem sh_all {n : Nat} : ∀ {ds : List PyData}, (∀ d ∈ ds, Sh n d) → PyData.canLayAll0 ds = true ∧ PyData.depthAll ds ≤ n
  | [], _ => ⟨by simp [PyData.canLayAll0], by simp [PyData.depthAll]⟩
  | d :: ds, h => by
    obtain ⟨h1, h2⟩ := sh_all (ds := ds) fun x hx => h x (List.mem_cons_of_mem _ hx)
    obtain ⟨h3, h4⟩ := h d List.mem_cons_self
    exact ⟨by simp only [PyData.canLayAll0, h3, h1, Bool.and_self], by simp only [PyData.depthAll]; omega⟩
theorem sh_list {n : Nat} {ds : List PyData} (h : ∀ d ∈ ds, Sh n d) : Sh (n + 1) (.list ds) := by
  obtain ⟨h1, h2⟩ := sh_all h
  exact ⟨by simpa only [PyData.canLay0] using h1, by simp only [PyData.depth]; omega⟩
theorem sh_tuple {n : Nat} {ds : List PyData} (h : ∀ d ∈ ds, Sh n d) : Sh (n + 1) (.tuple ds) := by
  obtain ⟨h1, h2⟩ := sh_all h
  exact ⟨by simpa only [PyData.canLay0] using h1, by simp only [PyData.depth]; omega⟩
theorem Sh.mono {n m : Nat} {d : PyData} (h : Sh n d) (hn : n ≤ m) : Sh m d := ⟨h.1, Nat.le_trans h.2 hn⟩
/-! the script -/
theorem ints_inj : ∀ {a b : List Int}, a.map PyData.int = b.map PyData.int → a = b
  | [], [], _ => rfl
  | [], _ :: _, h => by cases h
  | _ :: _, [], h => by cases h
  | x :: a, y :: b, h => by
    rw [List.map_cons, List.map_cons] at h
    injection h with h1 h2
    injection h1 with h3
    rw [h3, ints_inj h2]
theorem dd_scr {B : Hp} {v : V} {ns : List Int} (h : Dd K B v (scrD ns)) : ∃ a, v = .ref a ∧ SqL K B a (ns.map V.int) := by
  generalize hd : scrD ns = d at h
  cases h with
  | @scr a ms h1 =>
    unfold scrD at hd
    injection hd with hd
    injection hd with hd _
    injection hd with _ hd
    injection hd with hd
    rw [ints_inj hd]
    exact ⟨a, rfl, h1⟩
  | _ => unfold scrD at hd; cases hd
theorem cd_lenS {ns : List Int} : CbD K (rLenU K) [scrD ns] (.dt (.int ns.length)) := fun B H vs e hx Q q => by
  cases hx with
  | cons hd hn =>
    cases hn
    obtain ⟨a, rfl, h1⟩ := dd_scr hd
    exact ⟨_, _, rfl, .inl ⟨_, sl_same e h1, rfl⟩, q _ B H (Step.refl e) (by rw [List.length_map]; exact .int _)⟩
theorem od_ixS {ns : List Int} {i : Int} {n : Int} (h : atI ns i = some n) : OpD K (rIx K) (scrD ns) (.int i) (.dt (.int n)) := fun B H v u e hx hy Q q => by
  cases hy
  obtain ⟨a, rfl, h1⟩ := dd_scr hx
  refine .inl ⟨_, _, i, .int n, rfl, rfl, sl_same e h1, ?_, q _ B H (Step.refl e) (.int _)⟩
  unfold atI at h ⊢
  rw [List.length_map]
  cases ej : ixN ns.length i with
  | none => rw [ej] at h; cases h
  | some j =>
    rw [ej] at h
    show (ns.map V.int)[j]? = some (V.int n)
    rw [List.getElem?_map, show ns[j]? = some n from h]
    rfl
theorem dp_ints {B : Hp} : ∀ ns : List Int, DpAll K B (ns.map V.int) (ns.map PyData.int)
  | [] => .nil
  | n :: ns => .cons (.int n) (dp_ints ns)
theorem od_neS {ns : List Int} : OpD K (rNeU K) (scrD ns) (.list []) (.dt (.bool (!ns.isEmpty))) := fun B H v u e hx hy Q q => by
  have hy2 := dp_same e _ _ hy
  obtain ⟨a, rfl, h1⟩ := dd_scr hx
  have sh : SeqAt.shaped (.list (ns.map PyData.int)) = true := (sh_list (n := 1) fun d hd => by
    obtain ⟨i, _, rfl⟩ := List.mem_map.mp hd
    exact sh_int).ok (by decide)
  refine .inr ⟨_, .list [], .lst (sl_same e h1) (dp_ints ns), dd_dp _ _ (by simp [PyData.canLay0, PyData.canLayAll0]) hy2, sh, (sh_list (n := 1) fun d hd => by cases hd).ok (by decide), ?_⟩
  have z : (!PyData.eqv (.list (ns.map PyData.int)) (.list [])) = !ns.isEmpty := by
    cases ns with
    | nil => simp [PyData.eqv, PyData.eqvAll]
    | cons n ns => simp [PyData.eqv, PyData.eqvAll]
  rw [z]
  exact q _ B H (Step.refl e) (.bl _)
end
end Sw
/-! part SwE -/
set_option Elab.async false
set_option linter.all false
set_option maxRecDepth 100000
set_option maxHeartbeats 4000000
namespace Sw
open PySem PySem.Spec L2

/-! ## K. texts as lists of codes -/
def tx (l : List Nat) : Str := ⟨l.toArray⟩
abbrev T (l : List Nat) : PyData := .str (tx l)
theorem tx_len (l : List Nat) : (tx l).length = l.length := by unfold tx Str.length; rw [List.size_toArray]
theorem tx_list (l : List Nat) : (tx l).cps.toList = l := by unfold tx; rfl
theorem tx_of (z : Str) : z = tx z.cps.toList := by unfold tx; rfl
theorem tx_app (a b : List Nat) : tx a ++ tx b = tx (a ++ b) := by
  show (⟨(a.toArray ++ b.toArray)⟩ : Str) = ⟨(a ++ b).toArray⟩
  congr 1
  simp
theorem tx_inj {a b : List Nat} (h : tx a = tx b) : a = b := by
  have := congrArg (fun z : Str => z.cps.toList) h
  simpa only [tx_list] using this
theorem tx_dec (a b : List Nat) : decide (tx a = tx b) = decide (a = b) := by
  by_cases h : a = b
  · subst h; simp
  · rw [decide_eq_false h, decide_eq_false fun z => h (tx_inj z)]
theorem tx_cut (l : List Nat) (lo hi : Option Int) : cutS (tx l) lo hi = tx ((l.drop (HT.sIx l.length 0 lo)).take (HT.sIx l.length l.length hi - HT.sIx l.length 0 lo)) := by
  unfold cutS
  rw [tx_list, tx_len]
  rfl
/-- l[a:b], l[a:], l[:b], 0 ≤ a, b -/
theorem tx_cut2 (l : List Nat) (a b : Nat) : cutS (tx l) (some (a : Int)) (some (b : Int)) = tx ((l.drop a).take (b - a)) := by
  rw [tx_cut, HT.sIx_nat, HT.sIx_nat]
  congr 1
  by_cases h : a ≤ l.length
  · rw [Nat.min_eq_left h]
    by_cases h2 : b ≤ l.length
    · rw [Nat.min_eq_left h2]
    · rw [Nat.min_eq_right (by omega), List.take_of_length_le (by rw [List.length_drop]; omega), List.take_of_length_le (by rw [List.length_drop]; omega)]
  · rw [Nat.min_eq_right (a := a) (b := l.length) (by omega), List.drop_of_length_le (by omega), List.drop_of_length_le (by omega), List.take_nil, List.take_nil]
theorem tx_cutL (l : List Nat) (a : Nat) : cutS (tx l) (some (a : Int)) none = tx (l.drop a) := by
  rw [tx_cut, HT.sIx_nat, HT.sIx_none]
  congr 1
  rw [List.take_of_length_le (by rw [List.length_drop]; omega)]
  by_cases h : a ≤ l.length
  · rw [Nat.min_eq_left h]
  · rw [Nat.min_eq_right (by omega), List.drop_of_length_le (by omega), List.drop_of_length_le (by omega)]
theorem tx_cutR (l : List Nat) (b : Nat) : cutS (tx l) none (some (b : Int)) = tx (l.take b) := by
  rw [tx_cut, HT.sIx_nat, HT.sIx_none, List.drop_zero, Nat.sub_zero]
  congr 1
  by_cases h : b ≤ l.length
  · rw [Nat.min_eq_left h]
  · rw [Nat.min_eq_right (by omega), List.take_of_length_le (by omega), List.take_of_length_le (by omega)]
theorem signs_tx (l : List Nat) : signs (tx l) = l.map fun c => T [c] := by unfold signs; rw [tx_list]; rfl
theorem strOk_tx {l : List Nat} (h : ∀ c ∈ l, c < 1114112) : PyData.strOk (tx l) = true := by
  unfold PyData.strOk tx
  simp only [List.all_toArray, List.all_eq_true, decide_eq_true_eq]
  exact h
section
variable {X : Cx}
theorem pe_strE {x : Str} {y : List Nat} {j pos} (h : x = tx y) : PE X (.Constant (.str x) j pos) (tC (.str (tx y))) := h ▸ pe_str
theorem pe_gint {x : Str} {i : Int} {pos : Pos} (hg : Gl X x) (h : ∃ t, X.mg x = some (.int i t)) (hd : (x == ("__debug__" : Str)) = false := by decide) : PE X (.Name x pos) (tC (.int i)) := by
  obtain ⟨t, ht⟩ := h
  exact pe_glob hg ht ⟨t, rfl⟩ hd
theorem pe_gstr {x : Str} {y : List Nat} {pos : Pos} (hg : Gl X x) (h : ∃ t, X.mg x = some (.str (tx y) t)) (hd : (x == ("__debug__" : Str)) = false := by decide) : PE X (.Name x pos) (tC (.str (tx y))) := by
  obtain ⟨t, ht⟩ := h
  exact pe_glob hg ht ⟨t, rfl⟩ hd
end
/-! rules over texts as codes -/
section
variable {K : PySem.W.Frag} {τ : Tau} {te to : TE}
theorem od_addT {a b : List Nat} (hz : a.length + b.length ≤ sizeLine) : OpD K (rAddU K) (T a) (T b) (.dt (T (a ++ b))) := by
  have h := od_add_str (K := K) (a := tx a) (b := tx b) (by rw [tx_len, tx_len]; exact hz)
  rw [tx_app] at h
  exact h
theorem od_eqT {a b : List Nat} : OpD K (rEqU K) (T a) (T b) (.dt (.bool (decide (a = b)))) := by
  have h := od_eq_str (K := K) (a := tx a) (b := tx b)
  rw [tx_dec] at h
  exact h
theorem od_neT {a b : List Nat} : OpD K (rNeU K) (T a) (T b) (.dt (.bool (!decide (a = b)))) := by
  have h := od_ne_str (K := K) (a := tx a) (b := tx b)
  rw [tx_dec] at h
  exact h
theorem od_ltT {a b : List Nat} : OpD K rLtU (T a) (T b) (.dt (.bool (decide (a < b)))) := od_lts
theorem cd_lenT {l : List Nat} (h : l.length ≤ sizeLine) : CbD K (rLenU K) [T l] (.dt (.int l.length)) := by
  have h2 := cd_len (K := K) (d := T l) (n := l.length) (by show some (tx l).length = _; rw [tx_len]) (fun z e => by cases e; rw [tx_len]; exact h)
  exact h2
theorem cd_lenZ {z : Str} (h : z.length ≤ sizeLine) : CbD K (rLenU K) [.str z] (.dt (.int z.length)) := cd_len rfl fun z e => by cases e; exact h
theorem cd_lenL {xs : List PyData} : CbD K (rLenU K) [.list xs] (.dt (.int xs.length)) := cd_len rfl fun z e => by cases e
theorem cd_lenU {xs : List PyData} : CbD K (rLenU K) [.tuple xs] (.dt (.int xs.length)) := cd_len rfl fun z e => by cases e
theorem od_ixT {l : List Nat} {i : Int} {c : Nat} (hz : l.length ≤ sizeLine) (h : atI l i = some c) : OpD K (rIx K) (T l) (.int i) (.dt (T [c])) :=
  od_ix_str (by rw [tx_len]; exact hz) (by rw [tx_list]; exact h)
theorem sd_T2 {l : List Nat} {a b : Nat} (hz : l.length ≤ sizeLine) : SlcD K (rSlU K) (T l) (some (a : Int)) (some (b : Int)) (.dt (T ((l.drop a).take (b - a)))) := by
  have h := sd_str (K := K) (z := tx l) (lo := some (a : Int)) (hi := some (b : Int)) (by rw [tx_len]; exact hz)
  rw [tx_cut2] at h
  exact h
theorem sd_TL {l : List Nat} {a : Nat} (hz : l.length ≤ sizeLine) : SlcD K (rSlU K) (T l) (some (a : Int)) none (.dt (T (l.drop a))) := by
  have h := sd_str (K := K) (z := tx l) (lo := some (a : Int)) (hi := none) (by rw [tx_len]; exact hz)
  rw [tx_cutL] at h
  exact h
theorem sd_TR {l : List Nat} {b : Nat} (hz : l.length ≤ sizeLine) : SlcD K (rSlU K) (T l) none (some (b : Int)) (.dt (T (l.take b))) := by
  have h := sd_str (K := K) (z := tx l) (lo := none) (hi := some (b : Int)) (by rw [tx_len]; exact hz)
  rw [tx_cutR] at h
  exact h
theorem ev_revT {l : List Nat} (h : EvS K te τ (T l)) (hz : l.length ≤ sizeLine) : EvX K (tRevS te) τ (.dt (T l.reverse)) := by
  have h2 := ev_revS h (by rw [tx_len]; exact hz)
  rw [tx_list] at h2
  exact h2
theorem od_mulT {l : List Nat} {k : Int} (h0 : 0 ≤ k) (hz : l.length * k.toNat ≤ sizeLine) (hk : k ≤ sizeLine) : OpD K (rMulU K) (T l) (.int k) (.dt (T (List.replicate k.toNat l).flatten)) := by
  have h := od_mul_str (K := K) (z := tx l) h0 (by rw [tx_len]; exact hz) hk
  rw [tx_list] at h
  exact h
theorem od_inSg {c : Nat} {l : List Nat} : OpD K (rInU K) (T [c]) (T l) (.dt (.bool (decide (c ∈ l)))) := fun B H v u e hx hy Q q => by
  cases hx; cases hy
  exact .inl ⟨c, tx l, rfl, rfl, q _ B H (Step.refl e) (.bl _)⟩
theorem od_niSg {c : Nat} {l : List Nat} : OpD K (rNiU K) (T [c]) (T l) (.dt (.bool (!decide (c ∈ l)))) := fun B H v u e hx hy Q q => by
  cases hx; cases hy
  exact .inl ⟨c, tx l, rfl, rfl, q _ B H (Step.refl e) (.bl _)⟩
/-! sep.join(list of texts) -/
def rJoinU (K : PySem.W.Frag) : V → List V → Hp → VK → Prop := fun x xs H Q => ∃ a p, ∃ ys : List Str, x = .str a ∧ xs = [.ref p] ∧ (SqL K H p (ys.map V.str) ∨ SqT K H p (ys.map V.str)) ∧
      (ys.map (·.length)).sum + ys.length * a.length ≤ 16777216 ∧ Q (.str (Txt.join a ys)) H
theorem pe_joinU {X : Cx} {o e : Expr} {to te : TE} {apos pos : Pos} (ho : PE X o to) (he : PE X e te) (hs : starEach [e] X.env = [(false, eval e X.env)] := by rfl) (hbase : attributeBase o "join" X.env (eval o X.env) = eval o X.env := by rfl) (hline : (apos.endLine == pos.line) = true := by rfl) :
    PE X (.Call (.Attribute o "join" apos) [e] [] pos) (tM1 (rJoinU X.K) to te) := pe_join ho he hs hbase hline
theorem dps_strs {B : Hp} : ∀ {ys : List (List Nat)} {vs : List V}, DdAll K B vs (ys.map T) → vs = (ys.map tx).map V.str
  | [], _, h => by cases h; rfl
  | y :: ys, _, h => by
    cases h with
    | cons h1 h2 => cases h1; rw [dps_strs h2]; rfl
theorem join_nil' : ∀ ys : List (List Nat), Str.join (tx []) (ys.map tx) = tx ys.flatten
  | [] => rfl
  | [y] => by simp [Str.join]
  | y :: z :: r => by
    have ih := join_nil' (z :: r)
    show tx y ++ tx [] ++ Str.join (tx []) ((z :: r).map tx) = _
    rw [ih, tx_app, tx_app, List.append_nil]
    rfl
theorem join_nil (ys : List (List Nat)) : Txt.join (tx []) (ys.map tx) = tx ys.flatten := by
  rw [TL.join_eq]
  exact join_nil' ys
theorem ev_join0 {ys : List (List Nat)} (h1 : EvS K to τ (T [])) (h2 : EvS K te τ (.list (ys.map T))) (hz : ys.flatten.length ≤ 16777216) : EvX K (tM1 (rJoinU K) to te) τ (.dt (T ys.flatten)) := fun σ B H hs e Q q =>
  h1 σ B H hs e _ fun v B1 H1 s1 d1 => by
    have d1 : Dd K B1 v (T []) := d1
    cases d1
    refine ⟨⟨_, rfl⟩, h2 σ B1 H1 (hs.same s1.b) s1.i _ fun u B2 H2 s2 d2 => ?_⟩
    have d2 : Dd K B2 u (.list (ys.map T)) := d2
    cases d2 with
    | lst g1 a1 =>
      have z := dps_strs a1
      subst z
      refine ⟨_, _, ys.map tx, rfl, rfl, .inl (SqL.of (s2.i _ _ g1)), ?_, ?_⟩
      · have e1 : ((ys.map tx).map (·.length)).sum = ys.flatten.length := by
          rw [List.length_flatten, List.map_map]
          congr 1
        rw [e1, tx_len]
        simpa using hz
      · rw [join_nil]
        exact q _ B2 H2 (s1.trans s2) (.str _)
end
/-! ## L. calls of defs by name -/
/-- the module's name x is a def that keeps the promise F -/
def Cal (P : Program) (w : World) (K : PySem.W.Frag) (mg : Str → Option Value) (base : Heap) (k : Nat) (x : Str) (ps : List Str) (F : List PyData → SD → Prop) : Prop :=
  ∃ a fd, mg x = some (.ref a) ∧ PySem.W.keepIn K (.ref a) = true ∧ Binds K fd ps [] ∧ FnOk P w K mg base (L2.CX P w) k a fd ps (spD K F)
section
variable {X : Cx} {k : Nat} {x : Str} {ps : List Str} {F : List PyData → SD → Prop} {e : Expr} {es : List Expr} {t : TA} {p pos : Pos}
theorem pe_callC {W : WX} (C : Cal X.prog X.w X.K X.mg X.base k x ps F) (tk : Takes X W) (hr : Room k X.A) (hg : Gl X x) (ha : PA X (e :: es) t) (hdb : (x == ("__debug__" : Str)) = false := by decide)
    (he : starEach (e :: es) X.env = (false, eval e X.env) :: starEach es X.env := by rfl) (hpl : (backTo pos (starEach es X.env)).any (·.1) = false := by rfl) : PE X (.Call (.Name x p) (e :: es) [] pos) (tCallS (spD X.K F) (WE W) t) := by
  obtain ⟨a, fd, h1, h2, h3, h4⟩ := C
  exact pe_callS h4 hr hg h1 h2 h3 (passAt tk) ha hdb he hpl
/-- a call without arguments lets nothing out -/
theorem pe_callC0 {W : WX} (C : Cal X.prog X.w X.K X.mg X.base k x ps F) (tk : Takes X W) (hr : Room k X.A) (hg : Gl X x) (hdb : (x == ("__debug__" : Str)) = false := by decide) : PE X (.Call (.Name x p) [] [] pos) (tCallS (spD X.K F) (fun _ => E0) tNil) := by
  obtain ⟨a, fd, h1, h2, h3, h4⟩ := C
  have h := pe_call0 (p := p) (pos := pos) h4 hr hg h1 h2 h3 .nil passL hdb
  exact h
end
end Sw
namespace Sw
open PySem PySem.Spec L2
theorem szl : sizeLine = 16777216 := by decide
section
variable {K : PySem.W.Frag} {τ : Tau} {t u : TT}
theorem et_orT (h : EvT K t τ true) : EvT K (tOr t u) τ true := fun σ B H hs e Q q => h σ B H hs e _ fun B1 H1 s1 => by
  show Q true H1
  exact q B1 H1 s1
theorem et_andF (h : EvT K t τ false) : EvT K (tAnd t u) τ false := fun σ B H hs e Q q => h σ B H hs e _ fun B1 H1 s1 => by
  show Q false H1
  exact q B1 H1 s1
theorem sd_Tn {l : List Nat} {a b : Nat} {i j : Int} (hi : i = (a : Int)) (hj : j = (b : Int)) (hz : l.length ≤ sizeLine) : SlcD K (rSlU K) (T l) (some i) (some j) (.dt (T ((l.drop a).take (b - a)))) := by
  subst hi hj
  exact sd_T2 hz
theorem sd_TLn {l : List Nat} {a : Nat} {i : Int} (hi : i = (a : Int)) (hz : l.length ≤ sizeLine) : SlcD K (rSlU K) (T l) (some i) none (.dt (T (l.drop a))) := by
  subst hi
  exact sd_TL hz
theorem sd_TRn {l : List Nat} {a : Nat} {i : Int} (hi : i = (a : Int)) (hz : l.length ≤ sizeLine) : SlcD K (rSlU K) (T l) none (some i) (.dt (T (l.take a))) := by
  subst hi
  exact sd_TR hz
end
/-! ### an own list as the operand -/
section
variable {K : PySem.W.Frag} {τ : List SD} {E : DEnds} {te : TE} {i : Nat}
theorem ws_extend {ds es : List PyData} (hi : τ[i]? = some (.ls ds)) (h : EvS K te (dv τ) (.list es)) (hz : ds.length + es.length ≤ sizeLine) (k : E.nx (τ.set i (.ls (ds ++ es)))) :
    WS K (tDrop (tBM K "list" rExtend (tVar i) (tCons te tNil))) τ E := fun B0 H0 D σ H ⟨B, S⟩ A => by
  rcases S.sl i _ hi with z | ⟨v, h1, p, o, rfl, n, h3, n2, vs, rfl, h4⟩
  · cases z
  refine ⟨.ref p, h1, .inl ⟨rfl, vs, SqL.of h3⟩, S.ev h fun v B' H' S' e w => ?_⟩
  rcases S'.sl i _ hi with z | ⟨v', g1, p', o', rfl, m, g3, m2, vs', rfl, g4⟩
  · cases z
  rw [h1] at g1
  cases g1
  have w : Dd K B' v (.list es) := w
  cases w with
  | lst w1 w2 => exact ⟨p, _, vs', _, rfl, rfl, g3, S'.st.i _ _ w1, by rw [dps_len g4, dps_len w2]; exact hz, A.nx _ _ _ k ⟨B', S'.mut hi rfl h1 rfl ⟨_, rfl, dps_app g4 w2⟩⟩⟩
theorem ws_par3 {ta tb tc : TE} {s1 s2 s3 : SD} {j k : Nat} (h1 : EvX K ta (dv τ) s1) (h2 : EvX K tb (dv τ) s2) (h3 : EvX K tc (dv τ) s3) (q : E.nx (((τ.set i s1).set j s2).set k s3)) : WS K (tPar3 i j k (tCons ta (tCons tb (tCons tc tNil)))) τ E := fun B0 H0 D σ H ⟨B, S⟩ A =>
  S.ev h1 fun v B1 H1 S1 e1 w1 => h2 σ B1 H1 S1.slD S1.st.i _ fun u B2 H2 st2 w2 => h3 σ B2 H2 (S1.step st2).slD st2.i _ fun z B3 H3 st3 w3 => ⟨v, u, z, rfl, A.nx _ _ _ q (by
    have T1 : StB K B0 H0 B1 (τ.set i s1) (σ.set i (some v)) H1 := S1.putN S w1
    have T2 : StB K B0 H0 B2 ((τ.set i s1).set j s2) ((σ.set i (some v)).set j (some u)) H2 := (T1.step st2).putN T1 w2
    exact ⟨B3, (T2.step st3).putN T2 w3⟩)⟩
end
end Sw
namespace Sw
open PySem PySem.Spec L2
section
variable {K : PySem.W.Frag} {τ : List SD} {E : DEnds} {t1 t2 : TS}
theorem OpD.frz {r : R2} {x y : PyData} {ds : List PyData} (h : OpD K r x y (.ls ds)) : OpD K r x y (.dt (.list ds)) := fun B H v u e hx hy Q q =>
  h B H v u e hx hy Q fun w B' H' s z => by
    obtain ⟨B2, s2, _, hd⟩ := VRel.frz s z
    exact q w B2 H' s2 hd
theorem CbD.frz {r : List V → Hp → VK → Prop} {xs ds : List PyData} (h : CbD K r xs (.ls ds)) : CbD K r xs (.dt (.list ds)) := fun B H vs e hx Q q =>
  h B H vs e hx Q fun w B' H' s z => by
    obtain ⟨B2, s2, _, hd⟩ := VRel.frz s z
    exact q w B2 H' s2 hd
theorem SlcD.frz {r : V → Option Int → Option Int → Hp → VK → Prop} {x : PyData} {lo hi : Option Int} {ds : List PyData} (h : SlcD K r x lo hi (.ls ds)) : SlcD K r x lo hi (.dt (.list ds)) := fun B H v e hx Q q =>
  h B H v e hx Q fun w B' H' s z => by
    obtain ⟨B2, s2, _, hd⟩ := VRel.frz s z
    exact q w B2 H' s2 hd
/-- a word between two statements -/
theorem ws_mid (M : List SD → Prop) (h1 : WS K t1 τ { E with nx := M }) (h2 : ∀ τ', M τ' → WS K t2 τ' E) : WS K (tSeq t1 t2) τ E := fun B0 H0 D σ H S A =>
  h1 B0 H0 { D with nx := t2 D } σ H S ⟨fun τ' σ' H' w S' => h2 τ' w B0 H0 D σ' H' S' A, A.rt, A.bk, A.ct, A.ex⟩
theorem eqv_self {d : PyData} (h : d.canLay0 = true) : PyData.eqv d d = true := PySem.SeqAt.eqv_refl d h
theorem od_neSelf {d : PyData} {n : Nat} (h : Sh n d) (hn : n ≤ 64) : OpD K (rNeU K) d d (.dt (.bool false)) := by
  have h2 := od_neD (K := K) (h.ok hn) (h.ok hn)
  rw [eqv_self h.1] at h2
  exact h2
theorem od_eqSelf {d : PyData} {n : Nat} (h : Sh n d) (hn : n ≤ 64) : OpD K (rEqU K) d d (.dt (.bool true)) := by
  have h2 := od_eqD (K := K) (h.ok hn) (h.ok hn)
  rw [eqv_self h.1] at h2
  exact h2
end
end Sw
/-! part SwM -/
set_option Elab.async false
set_option linter.all false
set_option maxRecDepth 100000
set_option maxHeartbeats 4000000
namespace Sw

/-! ## the mathematics of one replacement: lists of codes -/
/-- the places from the left; k signs are still to be skipped, i is where we stand -/
def plc (old : List Nat) : Nat → Nat → List Nat → List Nat
  | _, _, [] => []
  | k + 1, i, _ :: r => plc old k (i + 1) r
  | 0, i, c :: r => if old.isPrefixOf (c :: r) then i :: plc old (old.length - 1) (i + 1) r else plc old 0 (i + 1) r
/-- the result from the left -/
def rsl (old new : List Nat) : Nat → List Nat → List Nat
  | _, [] => []
  | k + 1, _ :: r => rsl old new k r
  | 0, c :: r => if old.isPrefixOf (c :: r) then new ++ rsl old new (old.length - 1) r else c :: rsl old new 0 r
abbrev places (old text : List Nat) : List Nat := plc old 0 0 text
abbrev result (old new text : List Nat) : List Nat := rsl old new 0 text

theorem plc_skip (old : List Nat) : ∀ (k i : Nat) (r : List Nat), plc old k i r = plc old 0 (i + k) (r.drop k)
  | 0, i, r => by simp
  | k + 1, i, [] => by simp [plc]
  | k + 1, i, c :: r => by
    rw [plc, plc_skip old k (i + 1) r, List.drop_succ_cons]
    congr 1
    omega
theorem rsl_skip (old new : List Nat) : ∀ (k : Nat) (r : List Nat), rsl old new k r = rsl old new 0 (r.drop k)
  | 0, r => by simp
  | k + 1, [] => by simp [rsl]
  | k + 1, c :: r => by rw [rsl, rsl_skip old new k r, List.drop_succ_cons]
theorem plc_yes {old : List Nat} {i : Nat} {r : List Nat} (hn : old ≠ []) (h : old <+: r) : plc old 0 i r = i :: plc old 0 (i + old.length) (r.drop old.length) := by
  cases r with
  | nil => exact absurd (List.prefix_nil.mp h) hn
  | cons c r =>
    have hl : 0 < old.length := List.length_pos_iff.mpr hn
    rw [plc, if_pos (List.isPrefixOf_iff_prefix.mpr h), plc_skip]
    obtain ⟨m, hm⟩ : ∃ m, old.length = m + 1 := ⟨old.length - 1, by omega⟩
    rw [hm, Nat.add_sub_cancel, List.drop_succ_cons]
    congr 2
    omega
theorem plc_no {old : List Nat} {i c : Nat} {r : List Nat} (h : ¬ old <+: (c :: r)) : plc old 0 i (c :: r) = plc old 0 (i + 1) r := by
  rw [plc, if_neg (fun z => h (List.isPrefixOf_iff_prefix.mp z))]
theorem plc_short {old : List Nat} : ∀ {r : List Nat} {i : Nat}, r.length < old.length → plc old 0 i r = []
  | [], i, _ => by simp [plc]
  | c :: r, i, h => by
    rw [plc_no (fun z => by have := z.length_le; omega)]
    exact plc_short (by rw [List.length_cons] at h; omega)
theorem rsl_yes {old new : List Nat} {r : List Nat} (hn : old ≠ []) (h : old <+: r) : rsl old new 0 r = new ++ rsl old new 0 (r.drop old.length) := by
  cases r with
  | nil => exact absurd (List.prefix_nil.mp h) hn
  | cons c r =>
    have hl : 0 < old.length := List.length_pos_iff.mpr hn
    rw [rsl, if_pos (List.isPrefixOf_iff_prefix.mpr h), rsl_skip]
    obtain ⟨m, hm⟩ : ∃ m, old.length = m + 1 := ⟨old.length - 1, by omega⟩
    rw [hm, Nat.add_sub_cancel, List.drop_succ_cons]
theorem rsl_no {old new : List Nat} {c : Nat} {r : List Nat} (h : ¬ old <+: (c :: r)) : rsl old new 0 (c :: r) = c :: rsl old new 0 r := by
  rw [rsl, if_neg (fun z => h (List.isPrefixOf_iff_prefix.mp z))]
theorem rsl_short {old new : List Nat} : ∀ {r : List Nat}, r.length < old.length → rsl old new 0 r = r
  | [], _ => by simp [rsl]
  | c :: r, h => by
    rw [rsl_no (fun z => by have := z.length_le; omega), rsl_short (by rw [List.length_cons] at h; omega)]
/-- what stands at a place -/
theorem pre_iff (old text : List Nat) (i : Nat) : (text.drop i).take old.length = old ↔ old <+: text.drop i := by
  rw [List.prefix_iff_eq_take]
  exact eq_comm
/-- the result built up from the places -/
def bld (text new : List Nat) (n : Nat) : List Nat → Nat → List Nat
  | [], e => text.drop e
  | p :: ps, e => (text.drop e).take (p - e) ++ new ++ bld text new n ps (p + n)
theorem bld_plc {old new text : List Nat} (hn : old ≠ []) : ∀ (r : List Nat) (i e : Nat), r = text.drop i → e ≤ i → i ≤ text.length → bld text new old.length (plc old 0 i r) e = (text.drop e).take (i - e) ++ rsl old new 0 r := by
  intro r
  induction hm : r.length using Nat.strongRecOn generalizing r with
  | _ m ih =>
    intro i e hr he hi
    cases r with
    | nil =>
      have h1 : text.length ≤ i := by
        have := congrArg List.length hr
        rw [List.length_nil, List.length_drop] at this
        omega
      show text.drop e = _ ++ []
      rw [List.append_nil, List.take_of_length_le (by rw [List.length_drop]; omega)]
    | cons c r =>
      have hlen : (c :: r).length = text.length - i := by rw [hr, List.length_drop]
      by_cases hp : old <+: (c :: r)
      · have hl := hp.length_le
        have hpos : 0 < old.length := List.length_pos_iff.mpr hn
        rw [plc_yes hn hp, rsl_yes hn hp]
        show (text.drop e).take (i - e) ++ new ++ bld text new old.length (plc old 0 (i + old.length) ((c :: r).drop old.length)) (i + old.length) = _
        rw [ih ((c :: r).drop old.length).length (by rw [List.length_drop]; omega) _ rfl (i + old.length) (i + old.length) (by rw [hr, List.drop_drop]) (Nat.le_refl _) (by omega)]
        rw [Nat.sub_self, List.take_zero, List.nil_append, List.append_assoc]
      · rw [plc_no hp, rsl_no hp]
        have hr2 : r = text.drop (i + 1) := by
          have := congrArg List.tail hr
          rw [List.tail_cons, List.tail_drop] at this
          exact this
        rw [ih r.length (by rw [List.length_cons] at hm; omega) r rfl (i + 1) e hr2 (by omega) (by rw [List.length_cons] at hlen; omega)]
        have h2 : (text.drop e).take (i + 1 - e) = (text.drop e).take (i - e) ++ [c] := by
          have h3 : (text.drop e)[i - e]? = some c := by
            rw [List.getElem?_drop, show e + (i - e) = i by omega]
            have := congrArg (fun l => l[0]?) hr
            simpa using this.symm
          rw [show i + 1 - e = (i - e) + 1 by omega, List.take_succ, h3]
          rfl
        rw [h2, List.append_assoc]
        rfl
theorem bld_result {old new text : List Nat} (hn : old ≠ []) : bld text new old.length (places old text) 0 = result old new text := by
  have h := bld_plc (old := old) (new := new) (text := text) hn text 0 0 (by simp) (Nat.le_refl _) (Nat.zero_le _)
  simpa using h
/-! sizes -/
theorem rsl_len (old new : List Nat) : ∀ (k : Nat) (r : List Nat), (rsl old new k r).length ≤ r.length * (new.length + 1)
  | _, [] => by simp [rsl]
  | k + 1, c :: r => by
    rw [rsl]
    have := rsl_len old new k r
    rw [List.length_cons, Nat.succ_mul]
    omega
  | 0, c :: r => by
    rw [rsl]
    split
    · have := rsl_len old new (old.length - 1) r
      rw [List.length_append, List.length_cons, Nat.succ_mul]
      omega
    · have := rsl_len old new 0 r
      rw [List.length_cons, List.length_cons, Nat.succ_mul]
      omega
theorem plc_len (old : List Nat) : ∀ (k i : Nat) (r : List Nat), (plc old k i r).length ≤ r.length
  | _, _, [] => by simp [plc]
  | k + 1, i, c :: r => by
    rw [plc]
    have := plc_len old k (i + 1) r
    rw [List.length_cons]
    omega
  | 0, i, c :: r => by
    rw [plc]
    split
    · have := plc_len old (old.length - 1) (i + 1) r
      rw [List.length_cons, List.length_cons]
      omega
    · have := plc_len old 0 (i + 1) r
      rw [List.length_cons]
      omega
/-! signs -/
def abc (l : List Nat) : Prop := ∀ c ∈ l, c = 97 ∨ c = 98 ∨ c = 99
theorem abc_nil : abc [] := fun _ h => by cases h
theorem abc_app {a b : List Nat} (ha : abc a) (hb : abc b) : abc (a ++ b) := fun c h => (List.mem_append.mp h).elim (ha c) (hb c)
theorem abc_sub {a b : List Nat} (h : ∀ c ∈ b, c ∈ a) (ha : abc a) : abc b := fun c hc => ha c (h c hc)
theorem abc_take {a : List Nat} (n : Nat) (ha : abc a) : abc (a.take n) := abc_sub (fun _ h => List.mem_of_mem_take h) ha
theorem abc_drop {a : List Nat} (n : Nat) (ha : abc a) : abc (a.drop n) := abc_sub (fun _ h => List.mem_of_mem_drop h) ha
theorem abc_rev {a : List Nat} (ha : abc a) : abc a.reverse := abc_sub (fun _ h => List.mem_reverse.mp h) ha
theorem abc_cons {c : Nat} {a : List Nat} (hc : c = 97 ∨ c = 98 ∨ c = 99) (ha : abc a) : abc (c :: a) := fun x h => by
  rcases List.mem_cons.mp h with e | h
  · rw [e]; exact hc
  · exact ha x h
theorem abc_rsl {old new : List Nat} (hn : abc new) : ∀ (k : Nat) (r : List Nat), abc r → abc (rsl old new k r)
  | _, [], _ => by simp only [rsl]; exact abc_nil
  | k + 1, c :: r, h => by
    rw [rsl]
    exact abc_rsl hn k r fun x hx => h x (List.mem_cons_of_mem _ hx)
  | 0, c :: r, h => by
    have hr : abc r := fun x hx => h x (List.mem_cons_of_mem _ hx)
    rw [rsl]
    split
    · exact abc_app hn (abc_rsl hn _ r hr)
    · exact abc_cons (h c List.mem_cons_self) (abc_rsl hn 0 r hr)
/-- a replacement that is one -/
structure Rp (old new : List Nat) : Prop where
  o1 : 1 ≤ old.length
  o4 : old.length ≤ 4
  n4 : new.length ≤ 4
  oa : abc old
  na : abc new
theorem Rp.ne {old new : List Nat} (h : Rp old new) : old ≠ [] := fun z => by have := h.o1; rw [z] at this; cases this
/-! the overlaps of a word -/
def ovl (w : List Nat) : List Nat := ((List.range (w.length - 1)).map (· + 1)).filter fun n => decide (w.take n = w.drop (w.length - n))
end Sw
/-! part SwJ -/
set_option Elab.async false
set_option linter.all false
set_option maxRecDepth 100000
set_option maxHeartbeats 4000000
namespace Sw
open PySem PySem.Spec L2
/-! ## exceptions of the program's own classes -/
/-- the classes stand one level under ReplaceError -/
def isSub (x y : Str) : Bool := x == y || y == ("ReplaceError" : Str)
/-- what a class that is raised says -/
structure ExcOk (K : PySem.W.Frag) (mg : Str → Option Value) (x : Str) : Prop where
  q : PySem.W.excIn K (He.ga K x) He.veBase "ValueError.__new__" = true
  gC : mg x = some (.ref (He.ga K x))
  kC : PySem.W.keepIn K (.ref (He.ga K x)) = true
  s : PySem.W.subIn K (.ref (He.ga K x)) (.type "BaseException") = some true
  t : PySem.W.typeIn K (.ref (He.ga K x)) = some (.type "type")
theorem ps_raiseX {X : Cx} {W : WX} {x m : Str} {j : Nat} {p p2 pos pos' : Pos} (o : ExcOk X.K X.mg x) (hc : X.calm = true) (tk : Takes X W) (hg : Gl X x) (hdb : (x == ("__debug__" : Str)) = false := by decide) :
    PS X (.Raise (some (.Call (.Name x p) [.Constant (.str m) j p2] [] pos)) none pos') (tRaise X.K W x) :=
  ps_raise hc tk (pmk_own PySem.F.excBase_ValueError o.q o.gC o.kC (raises_own o.s o.t) hg hdb)
/-- what the classes say of each other -/
structure ExcAll (K : PySem.W.Frag) (xs : List Str) : Prop where
  m : ∀ x ∈ xs, ∀ y ∈ xs, PySem.W.exmOne K (clsV K x) (clsV K y) = some (isSub x y)
  k : ∀ x ∈ xs, ∀ y ∈ xs, PySem.W.kitOne K (clsV K x) (clsV K y) = some (isSub x y)
  c : ∀ x ∈ xs, ExcC K (He.ga K x)
/-- decidable, for the head -/
def okC (K : PySem.W.Frag) (D : Addr) : Bool :=
  He.eqO (PySem.W.findIn K (.ref D) "__getattribute__") (some (some (.builtin "BaseException.__getattribute__"))) && (He.eqO (PySem.W.findIn K (.ref D) "__getattr__") (some none) &&
  (decide (PySem.W.subIn K (.ref D) (.type "BaseException") = some true) && (PySem.W.hasDictIn K D && (He.eqO (PySem.W.findIn K (.ref D) "__class__") (some (some (.builtin "object.__class__"))) &&
  (He.eqO (PySem.W.specialIn K (.builtin "object.__class__") "__get__") (some (some (.builtin "getset_descriptor.__get__"))) && (decide (PySem.W.takesIn K (.builtin "object.__class__") = some true) && decide (PySem.W.mroIn K D (.type "object") = some true)))))))
def okX (xs : List Str) (K : PySem.W.Frag) : Bool :=
  (xs.all fun x => xs.all fun y => decide (PySem.W.exmOne K (clsV K x) (clsV K y) = some (isSub x y)) && decide (PySem.W.kitOne K (clsV K x) (clsV K y) = some (isSub x y))) && xs.all fun x => okC K (He.ga K x)
theorem excAll_of {K : PySem.W.Frag} {xs : List Str} (h : okX xs K = true) : ExcAll K xs := by
  obtain ⟨h1, h2⟩ := He.ba h
  rw [List.all_eq_true] at h1 h2
  refine ⟨fun x hx y hy => ?_, fun x hx y hy => ?_, fun x hx => ?_⟩
  · exact of_decide_eq_true (He.ba (List.all_eq_true.mp (h1 x hx) y hy)).1
  · exact of_decide_eq_true (He.ba (List.all_eq_true.mp (h1 x hx) y hy)).2
  · obtain ⟨a, h3⟩ := He.ba (h2 x hx)
    obtain ⟨b, h3⟩ := He.ba h3
    obtain ⟨c, h3⟩ := He.ba h3
    obtain ⟨d, h3⟩ := He.ba h3
    obtain ⟨e, h3⟩ := He.ba h3
    obtain ⟨f, h3⟩ := He.ba h3
    obtain ⟨g, h3⟩ := He.ba h3
    exact ⟨He.eqO_ok a, He.eqO_ok b, of_decide_eq_true c, d, He.eqO_ok e, He.eqO_ok f, of_decide_eq_true g, of_decide_eq_true h3⟩
/-- the hook: the kit's facts, and these -/
def obsX (n : Nat) (fa : List He.Fa) (fn : List He.DefD) (xs : List Str) (g : Addr → Option Obj) : He.AlD × Bool := (He.obsDG n fa fn g, okX xs (He.frG g (He.asD g n)))
def hookX (n : Nat) (fa : List He.Fa) (fn : List He.DefD) (xs : List Str) : PySem.W.Hook where
  α := He.AlD × Bool
  obs := fun s => obsX n fa fn xs s.heap.get?
  val := fun _ => (He.valD fn, true)
  says := fun _ h => ∃ K : PySem.W.Frag, K.In h ∧ He.SaysD fa fn K ∧ ExcAll K xs
  of := fun _ _ e => ⟨_, He.frG_in, congrArg Prod.fst e, excAll_of (congrArg Prod.snd e)⟩
  keeps := fun _ _ _ ⟨K, hK, c⟩ k => ⟨K, PySem.W.Frag.In.keeps hK k, c⟩
theorem obsX_eq {n : Nat} {fa : List He.Fa} {fn : List He.DefD} {xs : List Str} {g : Addr → Option Obj} {s : Shared} (h : ∀ a, g a = s.heap.get? a) : obsX n fa fn xs g = (hookX n fa fn xs).obs s := by
  have e : g = s.heap.get? := funext h
  rw [e] <;> rfl
/-! try: .. except x as n: a suite that returns -/
def wX (K : PySem.W.Frag) (x : Str) (i : Nat) (ts : Str → Addr → TS) (W : WX) (xs : List Str) (D : Ends) : WX := fun cls d σ H =>
  ∃ c ∈ xs, cls = clsV K c ∧ d = none ∧ (isSub c x = true → ∀ a, H a = none → ts c a { nx := fun σ' H' => D.nx (σ'.set i none) H', rt := D.rt, bk := fun σ' H' => D.bk (σ'.set i none) H', ct := fun σ' H' => D.ct (σ'.set i none) H' } (σ.set i (some (.ref a))) H) ∧ (isSub c x = false → W cls d σ H)
def tTryX (K : PySem.W.Frag) (x : Str) (i : Nat) (tb : WX → TS) (ts : Str → Addr → TS) (W : WX) (xs : List Str) : TS := fun D σ H => tb (wX K x i ts W xs D) D σ H
section
variable {X : Cx} {x n : Str} {i : Nat} {body suite : List Stmt} {b₀ : Stmt} {np pos pos' : Pos} {tb : WX → TS} {ts : Str → Addr → TS} {Wout : WX} {xs : List Str}
theorem ps_tryX (F : ExcAll X.K xs) (hx : x ∈ xs) (hs : X.stack = X.env :: X.outer) (hf : X.env.frame = some X.env.locals) (hN : X.N.Nodup) (hi : X.N[i]? = some n) (hln : X.env.kindOf n = some .local) (hc : Names X x (clsV X.K x)) (tk : Takes X Wout)
    (hb : ∀ (W : WX) (pn : List (Addr × Obj)) (xe : Value → Shared → Prop), Takes (X.tr pn xe) W → PassesOwn (model X.prog X.w) X.A X.env xe → PSs (X.tr pn xe) body (tb W))
    (hsu : ∀ c ∈ xs, ∀ (a : Addr) (oe : Obj) (pn : List (Addr × Obj)), Zc (clsV X.K c) none oe → (∃ vs, oe.data = .fields vs) → PSs (X.suite a ((a, oe) :: pn)) (b₀ :: suite) (ts c a)) :
    PS X (.Try body [.ExceptHandler (some (.Name x np)) (some n) (b₀ :: suite) pos'] [] [] pos) (tTryX X.K x i tb ts Wout xs) := by
  have h := ps_try_as (X := X) (x := x) (n := n) (c := clsV X.K x) (i := i) (body := body) (suite := suite) (b₀ := b₀) (np := np) (pos := pos) (pos' := pos') (Wout := Wout)
    (tb := fun W D σ H => (∀ cls d σ' H', wX X.K x i ts Wout xs D cls d σ' H' → W cls d σ' H') ∧ tb (wX X.K x i ts Wout xs D) D σ H)
    (ts := fun a cls d D σ H => ∃ c ∈ xs, cls = clsV X.K c ∧ d = none ∧ ts c a D σ H) hs hf hN hi hln hc tk
    (fun W pn xe tk' po => ⟨fun pins s σ H D I h => (hb _ pn xe (tk'.imp h.1) po).run pins s σ H D I h.2⟩)
    (fun a oe cls d pn hz hv => ⟨fun pins s σ H D I h => by
      obtain ⟨c, hc, e1, e2, h⟩ := h
      subst e1 e2
      exact (hsu c hc a oe pn hz hv).run pins s σ H D I h⟩)
  refine ⟨fun pins s σ H D I q => h.run pins s σ H D I ⟨fun cls d σ' H' z => ?_, q⟩⟩
  obtain ⟨c, hc, e1, e2, h1, h2⟩ := z
  exact ⟨isSub c x, by rw [e1]; exact F.m c hc x hx, fun hb a ha => ⟨c, hc, e1, e2, h1 hb a ha⟩, h2⟩
/-- isinstance(e, y), e the caught exception -/
def tIsE (c y : Str) (a : Addr) (i : Nat) : TE := fun σ H Q => ∃ v, σ[i]? = some (some v) ∧ v = .ref a ∧ Q (.bl (isSub c y)) H
theorem pe_isE {c y : Str} {a : Addr} {oe : Obj} {pn : List (Addr × Obj)} {p p0 p1 p2 : Pos} {e : Str} (F : ExcAll X.K xs) (hc : c ∈ xs) (hy : y ∈ xs) (hz : Zc (clsV X.K c) none oe) (hv : ∃ vs, oe.data = .fields vs) (hm : X.mg ("isinstance" : Str) = none)
    (he : PE (X.suite a ((a, oe) :: pn)) (.Name e p1) (tVar i)) (gy : X.mg y = some (.ref (He.ga X.K y))) (hgl : Gl X y) (hgi : Gl X "isinstance") (hdb : (y == ("__debug__" : Str)) = false := by decide) :
    PE (X.suite a ((a, oe) :: pn)) (.Call (.Name "isinstance" p0) [.Name e p1, .Name y p2] [] p) (tIsE c y a i) := by
  have h := pe_callB (X := X.suite a ((a, oe) :: pn)) (p := p0) (pos := p) (x := "isinstance") (call_isE (pn := pn) (a := a) (F.c c hc) hz hv) hgi hm (by decide +kernel)
    (pa_cons he (pa_cons (pe_glob (pos := p2) (v := .ref (He.ga X.K y)) hgl gy rfl hdb) pa_nil))
  refine ⟨fun pins s σ H Q I q => h.run pins s σ H Q I ?_⟩
  obtain ⟨v, h1, h2, h3⟩ := q
  subst h2
  exact ⟨_, h1, _, _, _, rfl, (fun u r => r), F.k c hc y hy, h3⟩
end
section
variable {K : PySem.W.Frag} {τ : List SD} {E : DEnds} {x : Str} {i : Nat} {tb : WX → TS} {ts : Str → Addr → TS} {W : WX} {xs : List Str}
theorem dd_pin {B : Hp} {v : V} {a : Addr} (h : Dd K B v (pinD a)) : v = .ref a := by
  generalize hd : pinD a = d at h
  cases h with
  | ref b =>
    unfold pinD at hd
    injection hd with hd
    injection hd with hd _
    injection hd with _ hd
    injection hd with hd
    have hd2 : a = b := by exact_mod_cast hd
    rw [hd2]
  | scr _ =>
    unfold pinD scrD at hd
    injection hd with hd
    injection hd with hd _
    injection hd with hd _
    cases hd
  | _ => unfold pinD at hd; cases hd
theorem ev_isE {c y : Str} {a : Addr} {τ : Tau} (h : τ[i]? = some (some (pinD a))) : EvX K (tIsE c y a i) τ (.dt (.bool (isSub c y))) := fun σ B H hs e Q q => by
  obtain ⟨v, h1, h2⟩ := hs.2 i _ h
  exact ⟨v, h1, dd_pin h2, q _ B H (Step.refl e) (.bl _)⟩
/-- the suite returns, or gives the exception on -/
theorem ws_tryX (hW : E.W = W) (h : ∀ W', WS K (tb W') τ { E with W := W', ex := fun c τ' => c ∈ xs ∧ (isSub c x = true → ∀ a, WS K (ts c a) (τ'.set i (.dt (pinD a))) { nx := fun _ => False, rt := E.rt }) ∧ (isSub c x = false → E.ex c τ') }) :
    WS K (tTryX K x i tb ts W xs) τ E := fun B0 H0 D σ H S A => by
  subst hW
  refine h _ B0 H0 D σ H S ⟨A.nx, A.rt, A.bk, A.ct, fun c τ' σ' H' z S' => ?_⟩
  obtain ⟨hc, h1, h2⟩ := z
  refine ⟨c, hc, rfl, rfl, fun hb a ha => ?_, fun hb => A.ex c τ' σ' H' (h2 hb) S'⟩
  obtain ⟨B, S'⟩ := S'
  exact h1 hb a B0 H0 _ _ H' ⟨B, S'.putD (.ref a)⟩ ⟨fun _ _ _ z => z.elim, A.rt, fun _ _ _ z => z.elim, fun _ _ _ z => z.elim, fun _ _ _ _ z => z.elim⟩
/-! list.index of a truth value -/
def rIndexB : V → List V → Hp → VK → Prop := fun x vs H Q => ∃ (l : Addr) (bs : List Bool) (b : Bool), x = .ref l ∧ vs = [.bl b] ∧ H l = some (.lst (bs.map V.bl)) ∧ b ∈ bs ∧ Q (.int (bs.idxOf b : Nat)) H
theorem vals_bools : ∀ {bs : List Bool} {us : List Value}, Vals (bs.map V.bl) us → us = bs.map Value.bool
  | [], _, h => by cases h; rfl
  | b :: bs, _, h => by
    cases h with
    | cons h1 h2 =>
      have e : _ = Value.bool b := h1
      rw [e, vals_bools h2] <;> rfl
theorem mt_indexB {X : Cx} : MtR X "list.index" rIndexB := by
  intro pins s σ H x vs v us Q I rx rv h
  obtain ⟨l, bs, b, rfl, rfl, hH, hb, q⟩ := h
  cases rx
  obtain ⟨u, rfl, ru⟩ := rv.one
  have eu : u = Value.bool b := ru
  subst eu
  obtain ⟨its, n, r, ho, hz⟩ := I.lst hH
  have e := vals_bools r
  subst e
  rw [List.length_map] at hz
  refine PySem.SeqAt.call_list_index (ks := bs) (k := b) (vs := bs.map Value.bool) ⟨_, ho, rfl, n, rfl⟩ ⟨by rw [List.length_map], fun j h1 h2 => ?_⟩ hz hb ⟨.int _, H, I.kept (t' := s.toks + 1) fun _ _ z => z, ⟨_, rfl⟩, q⟩
  have h3 := PySem.SeqAt.EqAt.bool_bool (A := X.A.in1) (s := s) bs[j] b
  rw [List.getElem_map]
  have e2 : decide (bs[j] = b) = (bs[j] == b) := by cases bs[j] <;> cases b <;> rfl
  rw [e2]
  exact h3
theorem ev_indexB {τ : Tau} {te tb : TE} {bs : List Bool} {b : Bool} (h : EvS K te τ (.list (bs.map PyData.bool))) (h2 : EvS K tb τ (.bool b)) (hb : b ∈ bs) : EvX K (tBM K "list" rIndexB te (tCons tb tNil)) τ (.dt (.int (bs.idxOf b : Nat))) := fun σ B H hs e Q q =>
  h σ B H hs e _ fun v B1 H1 s1 d1 => by
    cases d1 with
    | lst g1 a1 =>
      have z := dps_bools a1
      subst z
      refine ⟨.inl ⟨rfl, _, SqL.of (s1.i _ _ g1)⟩, ?_⟩
      refine h2 σ B1 H1 (hs.same s1.b) s1.i _ fun v2 B2 H2 s2 d2 => ?_
      cases d2
      exact ⟨_, bs, b, rfl, rfl, s2.i _ _ (s2.b _ _ g1), hb, q _ B2 H2 (s1.trans s2) (.int _)⟩
end
end Sw
/-! part P1 -/
set_option Elab.async false
set_option linter.all false
set_option maxRecDepth 100000
set_option maxHeartbeats 4000000
namespace Sw
open PySem PySem.Spec L2
local macro_rules | `(tactic| walk_at "sz") => `(tactic| first | assumption | omega | (have hsz := szl; omega) | (have hsz := szl; simp only [List.length_append, List.length_cons, List.length_nil, List.length_take, List.length_drop, List.length_reverse, List.length_map, List.length_range]; omega) | decide)
local macro_rules | `(tactic| walk_at "evF") => `(tactic| fail)
local macro_rules | `(tactic| walk_at "ev1") => `(tactic| first
  | ((with_reducible apply ev_var); exact rfl) | with_reducible exact ev_int | with_reducible exact ev_none | with_reducible exact ev_bool | with_reducible exact ev_str
  | with_reducible exact ea_nil | with_reducible apply ea_cons | with_reducible exact eo_none | with_reducible apply eo_some
  | with_reducible exact et_yes | with_reducible apply et_B | with_reducible apply et_test | with_reducible apply et_not | with_reducible apply et_and | with_reducible apply et_or
  | (refine fun (_ : (_ : Bool) = true) => ?_) | (refine fun (_ : (_ : Bool) = false) => ?_)
  | walk_at "evF"
  | with_reducible apply ev_isi | with_reducible apply ev_op | with_reducible apply ev_cb | with_reducible apply ev_sl | with_reducible apply ev_un | with_reducible apply ev_notV
  | with_reducible apply ev_tup | with_reducible apply ev_lst | ((with_reducible apply EvX.frz); with_reducible apply ev_lst)
  | with_reducible apply ev_revL | with_reducible apply ev_revT | with_reducible apply ev_chain
  | with_reducible exact od_add_int | with_reducible exact od_sub | with_reducible exact od_lt | with_reducible exact od_le | with_reducible exact od_gt | with_reducible exact od_ge | with_reducible exact od_eq_int | with_reducible exact od_ne_int
  | with_reducible exact od_eqT | with_reducible exact od_neT | with_reducible exact od_ltT | with_reducible exact od_eq_bool | with_reducible exact od_ne_bool | with_reducible exact od_isN | with_reducible exact od_ntN | with_reducible exact od_isB | with_reducible exact od_ntB
  | with_reducible refine od_addT ?_ | ((with_reducible apply od_ix_tup); exact rfl) | ((with_reducible apply od_ix_list); exact rfl)
  | with_reducible exact cd_lenL | with_reducible exact cd_lenU | with_reducible exact cd_lenS | with_reducible refine cd_lenT ?_ | with_reducible refine cd_lenZ ?_ | with_reducible exact cd_max2 | with_reducible exact cd_min2 | with_reducible exact cd_all | with_reducible exact cd_any
  | refine sd_Tn rfl (Int.natCast_add _ _).symm ?_ | refine sd_Tn rfl rfl ?_ | refine sd_TLn rfl ?_ | refine sd_TRn rfl ?_
  | with_reducible refine od_mulT ?_ ?_ ?_ | with_reducible refine OpD.frz (od_mul_list ?_ ?_ ?_)
  | (intro z h; cases h; done) | walk_at "sz")
local macro_rules | `(tactic| walk_at "ev") => `(tactic| repeat' walk_at "ev1")
/-! ## replacing.py: what the defs are worth -/
mutual
def okD : PyData → Bool
  | .none | .bool _ | .int _ => true
  | .str z => decide (z.length ≤ sizeLine)
  | .list xs | .tuple xs => okAll xs && decide (xs.length ≤ sizeLine)
  | .dict _ => false
def okAll : List PyData → Bool
  | [] => true
  | x :: xs => okD x && okAll xs
end
theorem okAll_mem : ∀ {xs : List PyData} {x : PyData}, okAll xs = true → x ∈ xs → okD x = true
  | [], _, _, h => by cases h
  | y :: ys, x, h, hx => by
    simp only [okAll, Bool.and_eq_true] at h
    rcases List.mem_cons.mp hx with e | hx
    · rw [e]; exact h.1
    · exact okAll_mem h.2 hx
theorem okD_nd {d : PyData} (h : okD d = true) : ∀ z, d ≠ .dict z := fun z e => by rw [e] at h; simp [okD] at h
def isSign (c : Nat) : Bool := c == 97 || c == 98 || c == 99
def isStrD (d : PyData) (lo hi : Int) : Bool := match d with
  | .str z => decide (lo ≤ (z.length : Int)) && decide ((z.length : Int) ≤ hi) && z.cps.toList.all isSign
  | _ => false
def isTextD (d : PyData) : Bool := isStrD d 0 40
def isRepD (d : PyData) : Bool := match d with
  | .tuple [a, b] => isStrD a 1 4 && isStrD b 0 4
  | _ => false
def isScrD (d : PyData) : Bool := match d with
  | .list xs => decide (xs.length ≤ 3) && xs.all isRepD
  | _ => false
abbrev rep (old new : List Nat) : PyData := .tuple [T old, T new]
theorem abc_all {l : List Nat} : l.all isSign = true ↔ abc l := by
  rw [List.all_eq_true]
  unfold abc isSign
  constructor
  · intro h c hc
    have := h c hc
    simp only [Bool.or_eq_true, beq_iff_eq] at this
    omega
  · intro h c hc
    have := h c hc
    simp only [Bool.or_eq_true, beq_iff_eq]
    omega
theorem isStr_T {l : List Nat} {lo hi : Int} (h1 : lo ≤ (l.length : Int)) (h2 : (l.length : Int) ≤ hi) (h : abc l) : isStrD (T l) lo hi = true := by
  show (decide (lo ≤ ((tx l).length : Int)) && decide (((tx l).length : Int) ≤ hi) && (tx l).cps.toList.all isSign) = true
  rw [tx_len, tx_list, decide_eq_true h1, decide_eq_true h2, abc_all.mpr h]
  rfl
theorem isRep_rep {old new : List Nat} (h : Rp old new) : isRepD (rep old new) = true := by
  have h1 := h.o1
  have h2 := h.o4
  have h3 := h.n4
  show (isStrD (T old) 1 4 && isStrD (T new) 0 4) = true
  rw [isStr_T (by omega) (by omega) h.oa, isStr_T (by omega) (by omega) h.na]
  rfl
theorem isText_T {l : List Nat} (h1 : l.length ≤ 40) (h : abc l) : isTextD (T l) = true := isStr_T (by omega) (by omega) h
theorem ok_T {l : List Nat} (h : l.length ≤ 16777216) : okD (T l) = true := by
  simp only [okD, tx_len]
  exact decide_eq_true (by rw [szl]; exact h)
theorem ok_rep {old new : List Nat} (h : Rp old new) : okD (rep old new) = true := by
  have h2 := h.o4
  have h3 := h.n4
  simp only [okD, okAll, tx_len, Bool.and_true, Bool.and_eq_true, decide_eq_true_eq, szl, List.length_cons, List.length_nil]
  omega
/-! the promises -/
def F_is_string (ds : List PyData) (sd : SD) : Prop := ∃ d lo hi, ds = [d, .int lo, .int hi] ∧ okD d = true ∧ sd = .dt (.bool (isStrD d lo hi))
def F_is_text (ds : List PyData) (sd : SD) : Prop := ∃ d, ds = [d] ∧ okD d = true ∧ sd = .dt (.bool (isTextD d))
def F_is_replacement (ds : List PyData) (sd : SD) : Prop := ∃ d, ds = [d] ∧ okD d = true ∧ sd = .dt (.bool (isRepD d))
/-- the check: nothing, or the exception c -/
def chk (b : Bool) (c : Str) : SD := if b then .dt .none else .ex c
def F_check_replacement (ds : List PyData) (sd : SD) : Prop := ∃ d, ds = [d] ∧ okD d = true ∧ sd = chk (isRepD d) "InvalidReplacement"
def F_check_text (ds : List PyData) (sd : SD) : Prop := ∃ d, ds = [d] ∧ okD d = true ∧ sd = chk (isTextD d) "InvalidText"
def nums (l : List Nat) : List PyData := l.map fun (n : Nat) => PyData.int (n : Int)
/-- texts that are not too long for the machine -/
abbrev Fit (l : List Nat) : Prop := l.length ≤ 1000000
def F_find_places (ds : List PyData) (sd : SD) : Prop := ∃ old new text, ds = [rep old new, T text] ∧ Rp old new ∧ Fit text ∧ sd = .ls (nums (places old text))
def F_find_result (ds : List PyData) (sd : SD) : Prop := ∃ old new text, ds = [rep old new, T text] ∧ Rp old new ∧ Fit text ∧ sd = .dt (T (result old new text))
def F_result (ds : List PyData) (sd : SD) : Prop := ∃ old new text, ds = [rep old new, T text] ∧ Rp old new ∧ abc text ∧ text.length ≤ 40 ∧ sd = .dt (T (result old new text))
def F_places (ds : List PyData) (sd : SD) : Prop := ∃ old new text, ds = [rep old new, T text] ∧ Rp old new ∧ abc text ∧ text.length ≤ 40 ∧ sd = .ls (nums (places old text))
def F_growth (ds : List PyData) (sd : SD) : Prop := ∃ old new text, ds = [rep old new, T text] ∧ Rp old new ∧ abc text ∧ text.length ≤ 40 ∧ sd = .dt (.int (((result old new text).length : Int) - (text.length : Int)))
def F_find_overlaps (ds : List PyData) (sd : SD) : Prop := ∃ w, ds = [T w] ∧ w.length ≤ 1000 ∧ sd = .ls (nums (ovl w))
def F_overlaps (ds : List PyData) (sd : SD) : Prop := ∃ w, ds = [T w] ∧ abc w ∧ 1 ≤ w.length ∧ w.length ≤ 4 ∧ sd = .ls (nums (ovl w))
def F_is_script (ds : List PyData) (sd : SD) : Prop := ∃ d, ds = [d] ∧ okD d = true ∧ sd = .dt (.bool (isScrD d))
theorem len_is_string : ∀ ds sd, F_is_string ds sd → ds.length = 3 := by rintro _ _ ⟨_, _, _, rfl, _⟩; rfl
theorem len_is_text : ∀ ds sd, F_is_text ds sd → ds.length = 1 := by rintro _ _ ⟨_, rfl, _⟩; rfl
theorem len_is_replacement : ∀ ds sd, F_is_replacement ds sd → ds.length = 1 := by rintro _ _ ⟨_, rfl, _⟩; rfl
theorem len_check_replacement : ∀ ds sd, F_check_replacement ds sd → ds.length = 1 := by rintro _ _ ⟨_, rfl, _⟩; rfl
theorem len_check_text : ∀ ds sd, F_check_text ds sd → ds.length = 1 := by rintro _ _ ⟨_, rfl, _⟩; rfl
theorem len_find_places : ∀ ds sd, F_find_places ds sd → ds.length = 2 := by rintro _ _ ⟨_, _, _, rfl, _⟩; rfl
theorem len_find_result : ∀ ds sd, F_find_result ds sd → ds.length = 2 := by rintro _ _ ⟨_, _, _, rfl, _⟩; rfl
theorem len_result : ∀ ds sd, F_result ds sd → ds.length = 2 := by rintro _ _ ⟨_, _, _, rfl, _⟩; rfl
theorem len_places : ∀ ds sd, F_places ds sd → ds.length = 2 := by rintro _ _ ⟨_, _, _, rfl, _⟩; rfl
theorem len_growth : ∀ ds sd, F_growth ds sd → ds.length = 2 := by rintro _ _ ⟨_, _, _, rfl, _⟩; rfl
theorem len_find_overlaps : ∀ ds sd, F_find_overlaps ds sd → ds.length = 1 := by rintro _ _ ⟨_, rfl, _⟩; rfl
theorem len_overlaps : ∀ ds sd, F_overlaps ds sd → ds.length = 1 := by rintro _ _ ⟨_, rfl, _⟩; rfl
theorem len_is_script : ∀ ds sd, F_is_script ds sd → ds.length = 1 := by rintro _ _ ⟨_, rfl, _⟩; rfl
def t_is_string (K : PySem.W.Frag) (W : WX) : TS :=
  (tSeq (tIfS (tOr (tNot (tB (tCB (rIsi K) (tCons (tVar 0) (tCons (tC (.ty "str")) tNil))))) (tNot (tTest (tChain rLeU rLeU (tVar 1) (tCB (rLenU K) (tCons (tVar 0) tNil)) (tVar 2))))) (tRet (tC (.bl false))) tNext)
    (tRet (tCB (rAll K) (tCons (tLc (iStr (tVar 0)) (gName 3) tYes (tOp (rInU K) (tVar 3) (tC (.str (tx [97, 98, 99])))) [3]) tNil))))
def t_is_text (K : PySem.W.Frag) (W : WX) : TS :=
  (tRet (tCallS (spD K F_is_string) (WE W) (tCons (tVar 0) (tCons (tC (.int 0)) (tCons (tC (.int 40)) tNil)))))
def t_is_replacement (K : PySem.W.Frag) (W : WX) : TS :=
  (tSeq (tIfS (tOr (tNot (tB (tCB (rIsi K) (tCons (tVar 0) (tCons (tC (.ty "tuple")) tNil))))) (tTest (tOp (rNeU K) (tCB (rLenU K) (tCons (tVar 0) tNil)) (tC (.int 2))))) (tRet (tC (.bl false))) tNext)
    (tRet (tAndV (tCallS (spD K F_is_string) (WE W) (tCons (tOp (rIx K) (tVar 0) (tC (.int 0))) (tCons (tC (.int 1)) (tCons (tC (.int 4)) tNil)))) (tCallS (spD K F_is_string) (WE W) (tCons (tOp (rIx K) (tVar 0) (tC (.int 1))) (tCons (tC (.int 0)) (tCons (tC (.int 4)) tNil)))))))
def t_check_replacement (K : PySem.W.Frag) (W : WX) : TS :=
  (tIfS (tNot (tB (tCallS (spD K F_is_replacement) (WE W) (tCons (tVar 0) tNil)))) (tRaise K W "InvalidReplacement") tNext)
def t_check_text (K : PySem.W.Frag) (W : WX) : TS :=
  (tIfS (tNot (tB (tCallS (spD K F_is_text) (WE W) (tCons (tVar 0) tNil)))) (tRaise K W "InvalidText") tNext)
def t_find_places (K : PySem.W.Frag) (W : WX) : TS :=
  (tSeq (tPar3 2 3 4 (tCons (tOp (rIx K) (tVar 0) (tC (.int 0))) (tCons (tLst tNil) (tCons (tC (.int 0)) tNil))))
    (tSeq (tWhile (tTest (tOp rLeU (tOp (rAddU K) (tVar 4) (tCB (rLenU K) (tCons (tVar 2) tNil))) (tCB (rLenU K) (tCons (tVar 1) tNil)))) (tIfS (tTest (tOp (rEqU K) (tSl (rSlU K) (tVar 1) (tPart (tVar 4)) (tPart (tOp (rAddU K) (tVar 4) (tCB (rLenU K) (tCons (tVar 2) tNil))))) (tVar 2))) (tSeq (tDrop (tBM K "list" rAppend (tVar 3) (tCons (tVar 4) tNil)))
    (tAsg (tOp (rAddU K) (tVar 4) (tCB (rLenU K) (tCons (tVar 2) tNil))) (gName 4))) (tAsg (tOp (rAddU K) (tVar 4) (tC (.int 1))) (gName 4))))
    (tRet (tVar 3))))
def t_find_result (K : PySem.W.Frag) (W : WX) : TS :=
  (tSeq (tAsg (tVar 0) (gTup K 2 (gCons (gName 2) (gCons (gName 3) gNil))))
    (tSeq (tAsg (tTup (tCons (tC (.str (tx []))) (tCons (tC (.int 0)) tNil))) (gTup K 2 (gCons (gName 4) (gCons (gName 5) gNil))))
    (tSeq (tFor (iList K (tCallS (spD K F_find_places) (WE W) (tCons (tVar 0) (tCons (tVar 1) tNil)))) (gName 6) (tSeq (tAsg (tOp (rAddU K) (tOp (rAddU K) (tVar 4) (tSl (rSlU K) (tVar 1) (tPart (tVar 5)) (tPart (tVar 6)))) (tVar 3)) (gName 4))
    (tAsg (tOp (rAddU K) (tVar 6) (tCB (rLenU K) (tCons (tVar 2) tNil))) (gName 5))))
    (tRet (tOp (rAddU K) (tVar 4) (tSl (rSlU K) (tVar 1) (tPart (tVar 5)) tNoPart))))))
def t_result (K : PySem.W.Frag) (W : WX) : TS :=
  (tSeq (tDrop (tCallS (spD K F_check_replacement) (WE W) (tCons (tVar 0) tNil)))
    (tSeq (tDrop (tCallS (spD K F_check_text) (WE W) (tCons (tVar 1) tNil)))
    (tRet (tCallS (spD K F_find_result) (WE W) (tCons (tVar 0) (tCons (tVar 1) tNil))))))
def t_places (K : PySem.W.Frag) (W : WX) : TS :=
  (tSeq (tDrop (tCallS (spD K F_check_replacement) (WE W) (tCons (tVar 0) tNil)))
    (tSeq (tDrop (tCallS (spD K F_check_text) (WE W) (tCons (tVar 1) tNil)))
    (tRet (tCallS (spD K F_find_places) (WE W) (tCons (tVar 0) (tCons (tVar 1) tNil))))))
def t_find_overlaps (K : PySem.W.Frag) (W : WX) : TS :=
  (tRet (tLc (iRng2 (tCons (tC (.int 1)) (tCons (tCB (rLenU K) (tCons (tVar 0) tNil)) tNil))) (gName 1) (tTest (tOp (rEqU K) (tSl (rSlU K) (tVar 0) tNoPart (tPart (tVar 1))) (tSl (rSlU K) (tVar 0) (tPart (tOp rSubU (tCB (rLenU K) (tCons (tVar 0) tNil)) (tVar 1))) tNoPart))) (tVar 1) [1]))
def t_overlaps (K : PySem.W.Frag) (W : WX) : TS :=
  (tSeq (tIfS (tNot (tB (tCallS (spD K F_is_string) (WE W) (tCons (tVar 0) (tCons (tC (.int 1)) (tCons (tC (.int 4)) tNil)))))) (tRaise K W "InvalidWord") tNext)
    (tRet (tCallS (spD K F_find_overlaps) (WE W) (tCons (tVar 0) tNil))))
def t_growth (K : PySem.W.Frag) (W : WX) : TS :=
  (tSeq (tDrop (tCallS (spD K F_check_replacement) (WE W) (tCons (tVar 0) tNil)))
    (tSeq (tDrop (tCallS (spD K F_check_text) (WE W) (tCons (tVar 1) tNil)))
    (tRet (tOp rSubU (tCB (rLenU K) (tCons (tCallS (spD K F_find_result) (WE W) (tCons (tVar 0) (tCons (tVar 1) tNil))) tNil)) (tCB (rLenU K) (tCons (tVar 1) tNil))))))
def t_is_script (K : PySem.W.Frag) (W : WX) : TS :=
  (tSeq (tIfS (tOr (tNot (tB (tCB (rIsi K) (tCons (tVar 0) (tCons (tC (.ty "list")) tNil))))) (tTest (tOp rGtU (tCB (rLenU K) (tCons (tVar 0) tNil)) (tC (.int 3))))) (tRet (tC (.bl false))) tNext)
    (tRet (tCB (rAll K) (tCons (tLc (iList K (tVar 0)) (gName 1) tYes (tCallS (spD K F_is_replacement) (WE W0) (tCons (tVar 1) tNil)) [1]) tNil))))
section
variable {K : PySem.W.Frag} {W : WX} {ds : List PyData} {sd : SD} {τ : Tau} {ta tb tc : TE} {E : St → XK}
theorem isSign_mem (c : Nat) : decide (c ∈ [97, 98, 99]) = isSign c := by
  unfold isSign
  by_cases h : c ∈ [97, 98, 99]
  · rw [decide_eq_true h]
    simp only [List.mem_cons, List.not_mem_nil, or_false] at h
    rcases h with h | h | h <;> subst h <;> rfl
  · rw [decide_eq_false h]
    simp only [List.mem_cons, List.not_mem_nil, or_false, not_or] at h
    simp [h.1, h.2.1, h.2.2]
theorem not_tt {b : Bool} (h : (!b) = true) : b = false := by cases b <;> first | rfl | cases h
theorem not_ff {b : Bool} (h : (!b) = false) : b = true := by cases b <;> first | rfl | cases h
theorem isStrD_str (z : Str) (lo hi : Int) : isStrD (.str z) lo hi = (decide (lo ≤ (z.length : Int)) && decide ((z.length : Int) ≤ hi) && z.cps.toList.all isSign) := rfl
theorem ws_is_string (h : F_is_string ds sd) : WS K (t_is_string K W) (startD 4 ds) (retE W sd) := by
  obtain ⟨d, lo, hi, rfl, hok, rfl⟩ := h
  show WS K (t_is_string K W) [.dt d, .dt (.int lo), .dt (.int hi), .no] _
  unfold t_is_string
  apply ws_seq
  cases d with
  | str z =>
    have hz : z.length ≤ sizeLine := by simpa [okD] using hok
    refine ws_if (b := !(decide (lo ≤ (z.length : Int)) && decide ((z.length : Int) ≤ hi))) ?_ (fun hb => ?_) (fun hb => ?_)
    · apply et_is
      · walk_at "ev"
      · rfl
    · refine ws_ret ev_bool ?_
      show SD.dt (.bool false) = SD.dt (.bool (isStrD (.str z) lo hi))
      have hb2 : (decide (lo ≤ (z.length : Int)) && decide ((z.length : Int) ≤ hi)) = false := not_tt hb
      rw [isStrD_str, hb2]
      rfl
    · refine ws_next (ws_ret (sd := .dt (.bool (z.cps.toList.all isSign))) (ev_cb (ea_cons (EvX.frz (ev_lcM (l := z.cps.toList) (d := fun c => T [c]) (fun c => .bool (isSign c)) (in_str (ev_var rfl)).e (by rw [Array.length_toList]; exact hz) fun c _ => ⟨_, te_name (by decide), ?_⟩)) ea_nil) ?_) ?_)
      · refine ev_is (ev_op (ev_var rfl) ev_str od_inSg) ?_
        rw [isSign_mem]
      · have e : (z.cps.toList.map fun c => PyData.bool (isSign c)) = (z.cps.toList.map isSign).map PyData.bool := by rw [List.map_map]; rfl
        rw [e]
        have h := cd_all (K := K) (bs := z.cps.toList.map isSign)
        have e2 : (z.cps.toList.map isSign).all id = z.cps.toList.all isSign := by rw [List.all_map]; rfl
        rw [e2] at h
        exact h
      · show SD.dt (.bool (z.cps.toList.all isSign)) = SD.dt (.bool (isStrD (.str z) lo hi))
        have hb2 : (decide (lo ≤ (z.length : Int)) && decide ((z.length : Int) ≤ hi)) = true := not_ff hb
        rw [isStrD_str, hb2]
        rfl
  | dict z => exact absurd rfl (okD_nd hok z)
  | _ =>
    refine ws_if (b := true) (et_orT ?_) (fun _ => ws_ret ev_bool rfl) (fun h => Bool.noConfusion h)
    apply et_is
    · walk_at "ev"
    · rfl
theorem e_is_string {d : PyData} {lo hi : Int} (ha : EvS K ta τ d) (hb : EvS K tb τ (.int lo)) (hc : EvS K tc τ (.int hi)) (hok : okD d = true) : EvX K (tCallS (spD K F_is_string) E (tCons ta (tCons tb (tCons tc tNil)))) τ (.dt (.bool (isStrD d lo hi))) :=
  ev_call (ea_cons ha (ea_cons hb (ea_cons hc ea_nil))) ⟨d, lo, hi, rfl, hok, rfl⟩
theorem ws_is_text (h : F_is_text ds sd) : WS K (t_is_text K W) (startD 1 ds) (retE W sd) := by
  obtain ⟨d, rfl, hok, rfl⟩ := h
  exact ws_ret (e_is_string (ev_var rfl) ev_int ev_int hok) rfl
theorem e_is_text {d : PyData} (ha : EvS K ta τ d) (hok : okD d = true) : EvX K (tCallS (spD K F_is_text) E (tCons ta tNil)) τ (.dt (.bool (isTextD d))) := ev_call (ea_cons ha ea_nil) ⟨d, rfl, hok, rfl⟩
theorem ws_is_replacement (h : F_is_replacement ds sd) : WS K (t_is_replacement K W) (startD 1 ds) (retE W sd) := by
  obtain ⟨d, rfl, hok, rfl⟩ := h
  show WS K (t_is_replacement K W) [.dt d] _
  unfold t_is_replacement
  apply ws_seq
  cases d with
  | tuple xs =>
    refine ws_if (b := !decide ((xs.length : Int) = 2)) ?_ (fun hb => ?_) (fun hb => ?_)
    · apply et_is
      · walk_at "ev"
      · rfl
    · refine ws_ret ev_bool ?_
      have h2 : xs.length ≠ 2 := by
        have : ¬ ((xs.length : Int) = 2) := by simpa using hb
        omega
      show SD.dt (.bool false) = SD.dt (.bool (isRepD (.tuple xs)))
      unfold isRepD
      split
      · rename_i a b he
        cases he
        exact absurd rfl h2
      · rfl
    · have h2 : xs.length = 2 := by
        have : (xs.length : Int) = 2 := by simpa using hb
        omega
      obtain ⟨a, b, rfl⟩ : ∃ a b, xs = [a, b] := by
        match xs, h2 with
        | [a, b], _ => exact ⟨a, b, rfl⟩
      simp only [okD, okAll, Bool.and_true, Bool.and_eq_true] at hok
      refine ws_next (ws_ret (ev_andV (e_is_string (ev_op (ev_var rfl) ev_int (od_ix_tup rfl)) ev_int ev_int hok.1.1) fun _ => e_is_string (ev_op (ev_var rfl) ev_int (od_ix_tup rfl)) ev_int ev_int hok.1.2) rfl)
  | dict z => exact absurd rfl (okD_nd hok z)
  | _ =>
    refine ws_if (b := true) (et_orT ?_) (fun _ => ws_ret ev_bool rfl) (fun h => Bool.noConfusion h)
    apply et_is
    · walk_at "ev"
    · rfl
theorem e_is_replacement {d : PyData} (ha : EvS K ta τ d) (hok : okD d = true) : EvX K (tCallS (spD K F_is_replacement) E (tCons ta tNil)) τ (.dt (.bool (isRepD d))) := ev_call (ea_cons ha ea_nil) ⟨d, rfl, hok, rfl⟩
theorem ws_check_replacement (h : F_check_replacement ds sd) : WS K (t_check_replacement K W) (startD 1 ds) (retE W sd) := by
  obtain ⟨d, rfl, hok, rfl⟩ := h
  refine ws_if (et_not (et_B (e_is_replacement (ev_var rfl) hok))) (fun z => ws_raise rfl ?_) fun z => ws_next ?_
  · show chk _ _ = _
    rw [show isRepD d = false by simpa using z]; rfl
  · show chk _ _ = _
    rw [show isRepD d = true by simpa using z]; rfl
theorem ws_check_text (h : F_check_text ds sd) : WS K (t_check_text K W) (startD 1 ds) (retE W sd) := by
  obtain ⟨d, rfl, hok, rfl⟩ := h
  refine ws_if (et_not (et_B (e_is_text (ev_var rfl) hok))) (fun z => ws_raise rfl ?_) fun z => ws_next ?_
  · show chk _ _ = _
    rw [show isTextD d = false by simpa using z]; rfl
  · show chk _ _ = _
    rw [show isTextD d = true by simpa using z]; rfl
theorem er_check_replacement {d : PyData} (ha : EvS K ta τ d) (hok : okD d = true) (h : isRepD d = false) : EvR K W (tCallS (spD K F_check_replacement) (WE W) (tCons ta tNil)) τ "InvalidReplacement" := er_call (ea_cons ha ea_nil) ⟨d, rfl, hok, by rw [h]; rfl⟩
theorem er_check_text {d : PyData} (ha : EvS K ta τ d) (hok : okD d = true) (h : isTextD d = false) : EvR K W (tCallS (spD K F_check_text) (WE W) (tCons ta tNil)) τ "InvalidText" := er_call (ea_cons ha ea_nil) ⟨d, rfl, hok, by rw [h]; rfl⟩
theorem e_check_replacement {old new : List Nat} (ha : EvS K ta τ (rep old new)) (h : Rp old new) : EvX K (tCallS (spD K F_check_replacement) E (tCons ta tNil)) τ (.dt .none) := ev_call (ea_cons ha ea_nil) ⟨_, rfl, ok_rep h, by rw [isRep_rep h]; rfl⟩
theorem e_check_text {l : List Nat} (ha : EvS K ta τ (T l)) (h : abc l) (hl : l.length ≤ 40) : EvX K (tCallS (spD K F_check_text) E (tCons ta tNil)) τ (.dt .none) := ev_call (ea_cons ha ea_nil) ⟨_, rfl, ok_T (by omega), by rw [isText_T hl h]; rfl⟩
theorem nums_app (a b : List Nat) : nums a ++ nums b = nums (a ++ b) := by unfold nums; rw [List.map_append]
theorem nums_len (a : List Nat) : (nums a).length = a.length := by unfold nums; rw [List.length_map]
theorem ws_find_places (h : F_find_places ds sd) : WS K (t_find_places K W) (startD 5 ds) (retE W sd) := by
  obtain ⟨old, new, text, rfl, hr, hf, rfl⟩ := h
  have hne := hr.ne
  have ho1 := hr.o1
  have ho4 := hr.o4
  show WS K (t_find_places K W) [.dt (rep old new), .dt (T text), .no, .no, .no] _
  unfold t_find_places
  refine ws_seq (ws_par3 (ev_op (ev_var rfl) ev_int (od_ix_tup rfl)) (ev_lst ea_nil (Nat.zero_le _)) ev_int ?_)
  refine ws_seq (ws_while (fun m τ => ∃ (p : Nat) (found : List Nat), τ = [.dt (rep old new), .dt (T text), .dt (T old), .ls (nums found), .dt (.int (p : Int))] ∧ p ≤ text.length ∧ found ++ plc old 0 p (text.drop p) = places old text ∧ found.length ≤ p ∧ m = text.length - p) text.length ⟨0, [], rfl, Nat.zero_le _, by simp, Nat.zero_le _, rfl⟩ ?_)
  rintro m τ ⟨p, found, rfl, hp, hpl, hfl, rfl⟩
  refine ⟨decide (p + old.length ≤ text.length), ?_, fun hb => ?_, fun hb => ?_⟩
  · apply et_is
    · walk_at "ev"
    · rw [Bool.eq_iff_iff]; simp only [decide_eq_true_eq]; omega
  · have hb : p + old.length ≤ text.length := by simpa using hb
    refine ws_if (b := decide (old <+: text.drop p)) ?_ (fun hc => ?_) (fun hc => ?_)
    · apply et_is
      · walk_at "ev"
      · rw [Bool.eq_iff_iff, Nat.add_sub_cancel_left]; simp only [decide_eq_true_eq]; exact pre_iff old text p
    · have hc : old <+: text.drop p := by simpa using hc
      refine ws_seq (ws_append (i := 3) rfl (ev_var rfl) (by rw [nums_len]; walk_at "sz") ?_)
      refine ws_set (sd := .dt (.int ((p + old.length : Nat) : Int))) (ev_is (d := .int ((p : Int) + (old.length : Int))) (by walk_at "ev") (by rw [Int.natCast_add])) ?_
      refine ⟨text.length - (p + old.length), by omega, p + old.length, found ++ [p], ?_, hb, ?_, by rw [List.length_append, List.length_singleton]; omega, rfl⟩
      · rw [← nums_app]; rfl
      · rw [← hpl, plc_yes hne hc, List.drop_drop, List.append_assoc]; rfl
    · have hc : ¬ old <+: text.drop p := by simpa using hc
      refine ws_set (sd := .dt (.int ((p + 1 : Nat) : Int))) (ev_is (d := .int ((p : Int) + 1)) (by walk_at "ev") (by rw [Int.natCast_add]; rfl)) ?_
      refine ⟨text.length - (p + 1), by omega, p + 1, found, rfl, by omega, ?_, by omega, rfl⟩
      rw [← hpl]
      congr 1
      cases hd : text.drop p with
      | nil =>
        have := congrArg List.length hd
        rw [List.length_drop, List.length_nil] at this
        omega
      | cons c r =>
        rw [hd] at hc
        rw [plc_no hc]
        have := congrArg List.tail hd
        rw [List.tail_drop, List.tail_cons] at this
        rw [this]
  · have hb : text.length < p + old.length := by simpa using hb
    rw [plc_short (by rw [List.length_drop]; omega), List.append_nil] at hpl
    exact ws_retV (i := 3) rfl (fun z => nomatch z) (by rw [hpl])
theorem e_find_places {old new text : List Nat} (ha : EvS K ta τ (rep old new)) (hb : EvS K tb τ (T text)) (h : Rp old new) (hf : Fit text) : EvX K (tCallS (spD K F_find_places) E (tCons ta (tCons tb tNil))) τ (.ls (nums (places old text))) :=
  ev_call (ea_cons ha (ea_cons hb ea_nil)) ⟨old, new, text, rfl, h, hf, rfl⟩
theorem ws_find_result (h : F_find_result ds sd) : WS K (t_find_result K W) (startD 7 ds) (retE W sd) := by
  obtain ⟨old, new, text, rfl, hr, hf, rfl⟩ := h
  have hne := hr.ne
  have ho1 := hr.o1
  have ho4 := hr.o4
  have hn4 := hr.n4
  show WS K (t_find_result K W) [.dt (rep old new), .dt (T text), .no, .no, .no, .no, .no] _
  unfold t_find_result
  refine ws_seq (ws_asg (ev_var rfl) (tg_tup (tgs_cons tg_name (tgs_cons tg_name tgs_nil)) rfl) ?_)
  refine ws_seq (ws_asg (ev_tup (ea_cons ev_str (ea_cons ev_int ea_nil)) (by walk_at "sz")) (tg_tup (tgs_cons tg_name (tgs_cons tg_name tgs_nil)) rfl) ?_)
  have hpl := plc_len old 0 0 text
  have hres := bld_result (new := new) (text := text) hne
  have hrl := rsl_len old new 0 text
  refine ws_seq (ws_for (xs := nums (places old text)) (ie_list (EvX.frz (e_find_places (ev_var rfl) (ev_var rfl) hr hf)))
    (fun i τ => ∃ (found : List Nat) (e : Nat) (z : SD), τ = [.dt (rep old new), .dt (T text), .dt (T old), .dt (T new), .dt (T found), .dt (.int (e : Int)), z] ∧ found ++ bld text new old.length ((places old text).drop i) e = result old new text) ?_ ?_ ?_)
  · exact ⟨[], 0, .no, rfl, by simpa using hres⟩
  · rintro i x τ hx ⟨found, e, z, rfl, hb⟩
    unfold nums at hx
    rw [List.getElem?_map] at hx
    cases hp : (places old text)[i]? with
    | none => rw [hp] at hx; cases hx
    | some p =>
      rw [hp] at hx
      cases hx
      refine ⟨_, tg_name, ?_⟩
      have hd : (places old text).drop i = p :: (places old text).drop (i + 1) := by
        obtain ⟨h1, h2⟩ := List.getElem?_eq_some_iff.mp hp
        rw [List.drop_eq_getElem_cons h1, h2]
      rw [hd] at hb
      have hb : found ++ ((text.drop e).take (p - e) ++ new ++ bld text new old.length ((places old text).drop (i + 1)) (p + old.length)) = result old new text := hb
      have hlen := congrArg List.length hb
      simp only [List.length_append] at hlen
      have hfit : (result old new text).length ≤ 5000000 := by
        have : text.length * (new.length + 1) ≤ 1000000 * 5 := Nat.mul_le_mul hf (by omega)
        have : (rsl old new 0 text).length ≤ 5000000 := by omega
        exact this
      refine ws_seq (ws_set (sd := .dt (T (found ++ (text.drop e).take (p - e) ++ new))) ?_ ?_)
      · walk_at "ev"
      · refine ws_set (sd := .dt (.int ((p + old.length : Nat) : Int))) (ev_is (d := .int ((p : Int) + (old.length : Int))) (by walk_at "ev") (by rw [Int.natCast_add])) ?_
        refine ⟨_, p + old.length, _, rfl, ?_⟩
        rw [← hb]
        simp only [List.append_assoc]
  · rintro τ ⟨found, e, z, rfl, hb⟩
    rw [nums_len, List.drop_length] at hb
    have hb : found ++ text.drop e = result old new text := hb
    have hlen := congrArg List.length hb
    simp only [List.length_append] at hlen
    have hfit : (result old new text).length ≤ 5000000 := by
      have : text.length * (new.length + 1) ≤ 1000000 * 5 := Nat.mul_le_mul hf (by omega)
      have : (rsl old new 0 text).length ≤ 5000000 := by omega
      exact this
    refine ws_ret (sd := .dt (T (found ++ text.drop e))) (by walk_at "ev") (by rw [hb])
theorem e_find_result {old new text : List Nat} (ha : EvS K ta τ (rep old new)) (hb : EvS K tb τ (T text)) (h : Rp old new) (hf : Fit text) : EvX K (tCallS (spD K F_find_result) E (tCons ta (tCons tb tNil))) τ (.dt (T (result old new text))) :=
  ev_call (ea_cons ha (ea_cons hb ea_nil)) ⟨old, new, text, rfl, h, hf, rfl⟩
theorem ws_result (h : F_result ds sd) : WS K (t_result K W) (startD 2 ds) (retE W sd) := by
  obtain ⟨old, new, text, rfl, hr, ha, hl, rfl⟩ := h
  exact ws_seq (ws_drop (e_check_replacement (ev_var rfl) hr) (ws_seq (ws_drop (e_check_text (ev_var rfl) ha hl) (ws_ret (e_find_result (ev_var rfl) (ev_var rfl) hr (by unfold Fit; omega)) rfl))))
theorem ws_places (h : F_places ds sd) : WS K (t_places K W) (startD 2 ds) (retE W sd) := by
  obtain ⟨old, new, text, rfl, hr, ha, hl, rfl⟩ := h
  exact ws_seq (ws_drop (e_check_replacement (ev_var rfl) hr) (ws_seq (ws_drop (e_check_text (ev_var rfl) ha hl) (ws_ret (e_find_places (ev_var rfl) (ev_var rfl) hr (by unfold Fit; omega)) rfl))))
theorem res_fit {old new text : List Nat} (hr : Rp old new) (hl : text.length ≤ 40) : (result old new text).length ≤ 200 := by
  have h1 := rsl_len old new 0 text
  have h2 := hr.n4
  have : text.length * (new.length + 1) ≤ 40 * 5 := Nat.mul_le_mul hl (by omega)
  have : (rsl old new 0 text).length ≤ 200 := by omega
  exact this
theorem ws_growth (h : F_growth ds sd) : WS K (t_growth K W) (startD 2 ds) (retE W sd) := by
  obtain ⟨old, new, text, rfl, hr, ha, hl, rfl⟩ := h
  have hz := res_fit hr hl
  refine ws_seq (ws_drop (e_check_replacement (ev_var rfl) hr) (ws_seq (ws_drop (e_check_text (ev_var rfl) ha hl) (ws_ret (ev_op (ev_cb (ea_cons (e_find_result (ev_var rfl) (ev_var rfl) hr (by unfold Fit; omega)) ea_nil) (cd_lenT (by walk_at "sz"))) (ev_cb (ea_cons (ev_var rfl) ea_nil) (cd_lenT (by walk_at "sz"))) od_sub) rfl))))
theorem ovl_eq (w : List Nat) : nums (ovl w) = (((List.range (w.length - 1)).filter fun k => decide (w.take (1 + k) = w.drop (w.length - (1 + k)))).map fun (k : Nat) => PyData.int (1 + (k : Int))) := by
  unfold nums ovl
  rw [List.filter_map, List.map_map]
  have e : ((fun n => decide (List.take n w = List.drop (w.length - n) w)) ∘ fun x => x + 1) = fun k => decide (w.take (1 + k) = w.drop (w.length - (1 + k))) := by
    funext k
    show decide (List.take (k + 1) w = List.drop (w.length - (k + 1)) w) = _
    rw [Nat.add_comm]
  rw [e]
  apply List.map_congr_left
  intro k _
  show PyData.int (((k + 1 : Nat)) : Int) = PyData.int (1 + (k : Int))
  congr 1
  omega
theorem ev_ovl {w : List Nat} (hw : w.length ≤ 1000) {τ : Tau} {i j : Nat} (hi : τ[i]? = some (some (T w))) (hij : i ≠ j) (hjl : j < τ.length) :
    EvX K (tLc (iRng2 (tCons (tC (.int 1)) (tCons (tCB (rLenU K) (tCons (tVar i) tNil)) tNil))) (gName j) (tTest (tOp (rEqU K) (tSl (rSlU K) (tVar i) tNoPart (tPart (tVar j))) (tSl (rSlU K) (tVar i) (tPart (tOp rSubU (tCB (rLenU K) (tCons (tVar i) tNil)) (tVar j))) tNoPart))) (tVar j) [j]) τ (.ls (nums (ovl w))) := by
  rw [ovl_eq]
  have hr : IterN K (iRng2 (tCons (tC (.int 1)) (tCons (tCB (rLenU K) (tCons (tVar i) tNil)) tNil))) τ (rng 1 ((w.length : Int) - 1).toNat) :=
    in_range2 (ea_cons ev_int (ea_cons (ev_cb (ea_cons (ev_var hi) ea_nil) (cd_lenT (by walk_at "sz"))) ea_nil)) (by omega)
  have e1 : ((w.length : Int) - 1).toNat = w.length - 1 := by omega
  rw [e1] at hr
  refine ev_lcF (l := List.range (w.length - 1)) (d := fun (k : Nat) => PyData.int (1 + (k : Int))) (fun k => decide (w.take (1 + k) = w.drop (w.length - (1 + k)))) (fun (k : Nat) => PyData.int (1 + (k : Int))) hr.e (by rw [List.length_range]; walk_at "sz") fun k hk => ?_
  have hk := List.mem_range.mp hk
  refine ⟨_, te_name List.mem_cons_self, ?_, fun _ => ?_⟩
  · have h0 : (wipeD τ [j])[i]? = some (some (T w)) := by
      show ((τ.set j none))[i]? = _
      rw [List.getElem?_set_ne (Ne.symm hij)]
      exact hi
    have h1 : ((wipeD τ [j]).set j (some (PyData.int (1 + (k : Int)))))[i]? = some (some (T w)) := by
      rw [List.getElem?_set_ne (Ne.symm hij)]
      exact h0
    have h2 : ((wipeD τ [j]).set j (some (PyData.int (1 + (k : Int)))))[j]? = some (some (PyData.int (1 + (k : Int)))) := by
      rw [List.getElem?_set_self (by rw [wipeD_len]; exact hjl)]
    have hz : w.length ≤ sizeLine := by walk_at "sz"
    refine et_test (ev_op (ev_sl (ev_var h1) eo_none (eo_some (ev_var h2)) (sd_TRn (a := 1 + k) (by omega) hz)) (ev_sl (ev_var h1) (eo_some (ev_op (ev_cb (ea_cons (ev_var h1) ea_nil) (cd_lenT hz)) (ev_var h2) od_sub)) eo_none (sd_TLn (a := w.length - (1 + k)) (by omega) hz)) od_eqT)
  · exact ev_var (by rw [List.getElem?_set_self (by rw [wipeD_len]; exact hjl)])
theorem ws_find_overlaps (h : F_find_overlaps ds sd) : WS K (t_find_overlaps K W) (startD 2 ds) (retE W sd) := by
  obtain ⟨w, rfl, hw, rfl⟩ := h
  exact ws_ret (ev_ovl hw rfl (by decide) (by show 1 < 2; decide)) rfl
theorem ws_overlaps (h : F_overlaps ds sd) : WS K (t_overlaps K W) (startD 1 ds) (retE W sd) := by
  obtain ⟨w, rfl, ha, h1, h4, rfl⟩ := h
  refine ws_seq (ws_if (b := false) (et_is (et_not (et_B (e_is_string (ev_var rfl) ev_int ev_int (ok_T (by omega))))) (by rw [isStr_T (by omega) (by omega) ha]; rfl)) (fun z => Bool.noConfusion z) fun _ => ws_next (ws_ret (ev_call (ea_cons (ev_var rfl) ea_nil) ⟨w, rfl, by omega, rfl⟩) rfl))
theorem ws_is_script (h : F_is_script ds sd) : WS K (t_is_script K W) (startD 2 ds) (retE W sd) := by
  obtain ⟨d, rfl, hok, rfl⟩ := h
  show WS K (t_is_script K W) [.dt d, .no] _
  unfold t_is_script
  apply ws_seq
  cases d with
  | list xs =>
    simp only [okD, Bool.and_eq_true, decide_eq_true_eq] at hok
    refine ws_if (b := !decide (xs.length ≤ 3)) ?_ (fun hb => ?_) (fun hb => ?_)
    · apply et_is
      · walk_at "ev"
      · rw [Bool.eq_iff_iff]; simp [tyIs, tyOf]; omega
    · refine ws_ret ev_bool ?_
      show SD.dt (.bool false) = SD.dt (.bool (decide (xs.length ≤ 3) && xs.all isRepD))
      rw [not_tt hb]
      rfl
    · refine ws_next (ws_ret (sd := .dt (.bool (xs.all isRepD))) (ev_cb (ea_cons (EvX.frz (ev_lcM (l := xs) (d := id) (fun d => .bool (isRepD d)) (ie_list (by rw [List.map_id]; exact ev_var rfl)) hok.2 fun d hd => ⟨_, te_name (by decide), e_is_replacement (ev_var rfl) (okAll_mem hok.1 hd)⟩)) ea_nil) ?_) ?_)
      · have e : (xs.map fun d => PyData.bool (isRepD d)) = (xs.map isRepD).map PyData.bool := by rw [List.map_map]; rfl
        rw [e]
        have h := cd_all (K := K) (bs := xs.map isRepD)
        have e2 : (xs.map isRepD).all id = xs.all isRepD := by rw [List.all_map]; rfl
        rw [e2] at h
        exact h
      · show SD.dt (.bool (xs.all isRepD)) = SD.dt (.bool (decide (xs.length ≤ 3) && xs.all isRepD))
        rw [not_ff hb]
        rfl
  | dict z => exact absurd rfl (okD_nd hok z)
  | _ =>
    refine ws_if (b := true) (et_orT ?_) (fun _ => ws_ret ev_bool rfl) (fun h => Bool.noConfusion h)
    apply et_is
    · walk_at "ev"
    · rfl
theorem e_is_script {d : PyData} (ha : EvS K ta τ d) (hok : okD d = true) : EvX K (tCallS (spD K F_is_script) E (tCons ta tNil)) τ (.dt (.bool (isScrD d))) := ev_call (ea_cons ha ea_nil) ⟨d, rfl, hok, rfl⟩
theorem e_result {old new text : List Nat} (ha : EvS K ta τ (rep old new)) (hb : EvS K tb τ (T text)) (h : Rp old new) (h1 : abc text) (h2 : text.length ≤ 40) : EvX K (tCallS (spD K F_result) E (tCons ta (tCons tb tNil))) τ (.dt (T (result old new text))) :=
  ev_call (ea_cons ha (ea_cons hb ea_nil)) ⟨old, new, text, rfl, h, h1, h2, rfl⟩
theorem e_places {old new text : List Nat} (ha : EvS K ta τ (rep old new)) (hb : EvS K tb τ (T text)) (h : Rp old new) (h1 : abc text) (h2 : text.length ≤ 40) : EvX K (tCallS (spD K F_places) E (tCons ta (tCons tb tNil))) τ (.ls (nums (places old text))) :=
  ev_call (ea_cons ha (ea_cons hb ea_nil)) ⟨old, new, text, rfl, h, h1, h2, rfl⟩
theorem e_growth {old new text : List Nat} (ha : EvS K ta τ (rep old new)) (hb : EvS K tb τ (T text)) (h : Rp old new) (h1 : abc text) (h2 : text.length ≤ 40) : EvX K (tCallS (spD K F_growth) E (tCons ta (tCons tb tNil))) τ (.dt (.int (((result old new text).length : Int) - (text.length : Int)))) :=
  ev_call (ea_cons ha (ea_cons hb ea_nil)) ⟨old, new, text, rfl, h, h1, h2, rfl⟩
theorem e_overlaps {w : List Nat} (ha : EvS K ta τ (T w)) (h : abc w) (h1 : 1 ≤ w.length) (h4 : w.length ≤ 4) : EvX K (tCallS (spD K F_overlaps) E (tCons ta tNil)) τ (.ls (nums (ovl w))) := ev_call (ea_cons ha ea_nil) ⟨w, rfl, h, h1, h4, rfl⟩
end
end Sw
/-! part L1 -/
set_option Elab.async false
set_option linter.all false
set_option maxRecDepth 100000
set_option maxHeartbeats 4000000
namespace Sw
open PySem PySem.Spec L2
local macro_rules | `(tactic| walk_at "sz") => `(tactic| first | assumption | omega | (have hsz := szl; omega) | (have hsz := szl; simp only [List.length_append, List.length_cons, List.length_nil, List.length_take, List.length_drop, List.length_reverse, List.length_map, List.length_range]; omega) | decide)
local macro_rules | `(tactic| walk_at "evF") => `(tactic| fail)
local macro_rules | `(tactic| walk_at "ev1") => `(tactic| first
  | ((with_reducible apply ev_var); exact rfl) | with_reducible exact ev_int | with_reducible exact ev_none | with_reducible exact ev_bool | with_reducible exact ev_str
  | with_reducible exact ea_nil | with_reducible apply ea_cons | with_reducible exact eo_none | with_reducible apply eo_some
  | with_reducible exact et_yes | with_reducible apply et_B | with_reducible apply et_test | with_reducible apply et_not | with_reducible apply et_and | with_reducible apply et_or
  | (refine fun (_ : (_ : Bool) = true) => ?_) | (refine fun (_ : (_ : Bool) = false) => ?_)
  | walk_at "evF"
  | with_reducible apply ev_isi | with_reducible apply ev_op | with_reducible apply ev_cb | with_reducible apply ev_sl | with_reducible apply ev_un | with_reducible apply ev_notV
  | with_reducible apply ev_tup | with_reducible apply ev_lst | ((with_reducible apply EvX.frz); with_reducible apply ev_lst)
  | with_reducible apply ev_revL | with_reducible apply ev_revT | with_reducible apply ev_chain
  | with_reducible exact od_add_int | with_reducible exact od_sub | with_reducible exact od_lt | with_reducible exact od_le | with_reducible exact od_gt | with_reducible exact od_ge | with_reducible exact od_eq_int | with_reducible exact od_ne_int
  | with_reducible exact od_eqT | with_reducible exact od_neT | with_reducible exact od_ltT | with_reducible exact od_eq_bool | with_reducible exact od_ne_bool | with_reducible exact od_isN | with_reducible exact od_ntN | with_reducible exact od_isB | with_reducible exact od_ntB
  | with_reducible refine od_addT ?_ | ((with_reducible apply od_ix_tup); exact rfl) | ((with_reducible apply od_ix_list); exact rfl)
  | with_reducible exact cd_lenL | with_reducible exact cd_lenU | with_reducible exact cd_lenS | with_reducible refine cd_lenT ?_ | with_reducible refine cd_lenZ ?_ | with_reducible exact cd_max2 | with_reducible exact cd_min2 | with_reducible exact cd_all | with_reducible exact cd_any
  | refine sd_Tn rfl (Int.natCast_add _ _).symm ?_ | refine sd_Tn rfl rfl ?_ | refine sd_TLn rfl ?_ | refine sd_TRn rfl ?_
  | with_reducible refine od_mulT ?_ ?_ ?_ | with_reducible refine OpD.frz (od_mul_list ?_ ?_ ?_)
  | (intro z h; cases h; done) | walk_at "sz")
local macro_rules | `(tactic| walk_at "ev") => `(tactic| repeat' walk_at "ev1")
/-! ## the laws' own draws (the first kind) -/
def cellOf (ns : List Int) (k : Int) : Int := if ns.isEmpty = true then 0 else ns.getD (k % (ns.length : Int)).toNat 0
def wheel : Nat → Int → Int
  | 0, r => r
  | n + 1, r => if 0 < r then wheel n (r / 840) else r
def pickL (ns : List Int) (k : Int) : Int := wheel (k / (max ns.length 1 : Nat)).toNat (cellOf ns k / 1000000000000000000)
def drawnOf (ns : List Int) (k : Int) : Int := (cellOf ns k * 31 + 6151 * (k + 1)) * 40692 % 2147483399
def pick (ns : List Int) (k many : Int) : Int :=
  if 0 < pickL ns k then pickL ns k % 840 % many else (drawnOf ns k * drawnOf ns k + drawnOf ns k / 31) % 2147483629 % many
theorem pick_lo (ns : List Int) (k : Int) {many : Int} (h : 1 ≤ many) : 0 ≤ pick ns k many := by
  unfold pick
  split <;> exact Int.emod_nonneg _ (by omega)
theorem pick_hi (ns : List Int) (k : Int) {many : Int} (h : 1 ≤ many) : pick ns k many < many := by
  unfold pick
  split <;> exact Int.emod_lt_of_pos _ (by omega)
def pickN (ns : List Int) (k : Int) (many : Nat) : Nat := (pick ns k many).toNat
theorem pickN_eq (ns : List Int) (k : Int) {many : Nat} (h : 1 ≤ many) : pick ns k many = ((pickN ns k many : Nat) : Int) := by
  unfold pickN
  rw [Int.toNat_of_nonneg (pick_lo ns k (by omega))]
theorem pickN_lt (ns : List Int) (k : Int) {many : Nat} (h : 1 ≤ many) : pickN ns k many < many := by
  have h1 := pick_hi ns k (many := many) (by omega)
  have h2 := pickN_eq ns k h
  omega
/-- a drawn word -/
def wordOf (ns : List Int) (place : Int) (least most : Nat) : List Nat :=
  (List.range (least + pickN ns place (most - least + 1))).map fun (i : Nat) => [97, 97, 98, 97, 98, 99].getD (pickN ns (place + 1 + (i : Int)) 6) 97
theorem word_len (ns : List Int) (place : Int) {least most : Nat} (h : least ≤ most) : least ≤ (wordOf ns place least most).length ∧ (wordOf ns place least most).length ≤ most := by
  unfold wordOf
  rw [List.length_map, List.length_range]
  have := pickN_lt ns place (many := most - least + 1) (by omega)
  omega
theorem word_abc (ns : List Int) (place : Int) (least most : Nat) : abc (wordOf ns place least most) := by
  intro c hc
  unfold wordOf at hc
  obtain ⟨i, _, rfl⟩ := List.mem_map.mp hc
  have h := pickN_lt ns (place + 1 + (i : Int)) (many := 6) (by omega)
  generalize pickN ns (place + 1 + (i : Int)) 6 = n at h
  match n, h with
  | 0, _ => exact .inl rfl
  | 1, _ => exact .inl rfl
  | 2, _ => exact .inr (.inl rfl)
  | 3, _ => exact .inl rfl
  | 4, _ => exact .inr (.inl rfl)
  | 5, _ => exact .inr (.inr rfl)
/-- a drawn replacement -/
def stepOf (ns : List Int) (place : Int) : List Nat × List Nat :=
  let old := wordOf ns place 1 4
  let new := wordOf ns (place + 6) 0 4
  let sort := pickN ns (place + 12) 8
  if sort = 0 then (old, (old ++ [98]).take 4) else if sort = 1 then (old, old.reverse) else if sort = 2 then (old, old.drop 1) else if sort = 3 then (old.take 2, new.take 1) else (old, new)
theorem step_rp (ns : List Int) (place : Int) : Rp (stepOf ns place).1 (stepOf ns place).2 := by
  have h1 := word_len ns place (least := 1) (most := 4) (by omega)
  have h2 := word_len ns (place + 6) (least := 0) (most := 4) (by omega)
  have a1 := word_abc ns place 1 4
  have a2 := word_abc ns (place + 6) 0 4
  unfold stepOf
  dsimp only
  split
  · exact ⟨h1.1, h1.2, by rw [List.length_take]; omega, a1, abc_take 4 (abc_app a1 (abc_cons (.inr (.inl rfl)) abc_nil))⟩
  · split
    · exact ⟨h1.1, h1.2, by rw [List.length_reverse]; exact h1.2, a1, abc_rev a1⟩
    · split
      · exact ⟨h1.1, h1.2, by rw [List.length_drop]; omega, a1, abc_drop 1 a1⟩
      · split
        · exact ⟨by rw [List.length_take]; omega, by rw [List.length_take]; omega, by rw [List.length_take]; omega, abc_take 2 a1, abc_take 1 a2⟩
        · exact ⟨h1.1, h1.2, h2.2, a1, a2⟩
/-- a script that is one -/
abbrev Sc (ns : List Int) : Prop := ns.length ≤ 63
abbrev Kb (k : Int) : Prop := 0 ≤ k ∧ k ≤ 100000
def F_law_pick (ds : List PyData) (sd : SD) : Prop := ∃ ns k many, ds = [scrD ns, .int k, .int many] ∧ Sc ns ∧ Kb k ∧ (1 ≤ many ∧ many ≤ 100000) ∧ sd = .dt (.int (pick ns k many))
def F_law_word (ds : List PyData) (sd : SD) : Prop := ∃ (ns : List Int) (k : Int) (least most : Nat), ds = [scrD ns, .int k, .int least, .int most] ∧ Sc ns ∧ (0 ≤ k ∧ k ≤ 10000) ∧ (least ≤ most ∧ most ≤ 1000) ∧ sd = .dt (T (wordOf ns k least most))
def F_law_step (ds : List PyData) (sd : SD) : Prop := ∃ ns k, ds = [scrD ns, .int k] ∧ Sc ns ∧ (0 ≤ k ∧ k ≤ 9000) ∧ sd = .dt (rep (stepOf ns k).1 (stepOf ns k).2)
def F_law_done (ds : List PyData) (sd : SD) : Prop := ∃ old new text, ds = [rep old new, T text] ∧ Rp old new ∧ Fit text ∧ sd = .dt (T (result old new text))
theorem len_law_pick : ∀ ds sd, F_law_pick ds sd → ds.length = 3 := by rintro _ _ ⟨_, _, _, rfl, _⟩; rfl
theorem len_law_word : ∀ ds sd, F_law_word ds sd → ds.length = 4 := by rintro _ _ ⟨_, _, _, _, rfl, _⟩; rfl
theorem len_law_step : ∀ ds sd, F_law_step ds sd → ds.length = 2 := by rintro _ _ ⟨_, _, rfl, _⟩; rfl
theorem len_law_done : ∀ ds sd, F_law_done ds sd → ds.length = 2 := by rintro _ _ ⟨_, _, _, rfl, _⟩; rfl
def t_law_pick (K : PySem.W.Frag) (W : WX) : TS :=
  (tSeq (tAsg (tIf (tTest (tOp (rNeU K) (tVar 0) (tLst tNil))) (tOp (rIx K) (tVar 0) (tOp rModU (tVar 1) (tCB (rLenU K) (tCons (tVar 0) tNil)))) (tC (.int 0))) (gName 3))
    (tSeq (tPar 4 5 (tCons (tOp rDivU (tVar 3) (tOp rPowU (tC (.int 10)) (tC (.int 18)))) (tCons (tOp rDivU (tVar 1) (tCB rMax2U (tCons (tCB (rLenU K) (tCons (tVar 0) tNil)) (tCons (tC (.int 1)) tNil)))) tNil)))
    (tSeq (tWhile (tAnd (tTest (tOp rGtU (tVar 4) (tC (.int 0)))) (tTest (tOp rGtU (tVar 5) (tC (.int 0))))) (tPar 4 5 (tCons (tOp rDivU (tVar 4) (tC (.int 840))) (tCons (tOp rSubU (tVar 5) (tC (.int 1))) tNil))))
    (tSeq (tIfS (tTest (tOp rGtU (tVar 4) (tC (.int 0)))) (tRet (tOp rModU (tOp rModU (tVar 4) (tC (.int 840))) (tVar 2))) tNext)
    (tSeq (tAsg (tOp rModU (tOp (rMulU K) (tOp (rAddU K) (tOp (rMulU K) (tVar 3) (tC (.int 31))) (tOp (rMulU K) (tC (.int 6151)) (tOp (rAddU K) (tVar 1) (tC (.int 1))))) (tC (.int 40692))) (tC (.int 2147483399))) (gName 6))
    (tRet (tOp rModU (tOp rModU (tOp (rAddU K) (tOp (rMulU K) (tVar 6) (tVar 6)) (tOp rDivU (tVar 6) (tC (.int 31)))) (tC (.int 2147483629))) (tVar 2))))))))
def t_law_word (K : PySem.W.Frag) (W : WX) : TS :=
  (tSeq (tAsg (tOp (rAddU K) (tVar 2) (tCallS (spD K F_law_pick) (WE W) (tCons (tVar 0) (tCons (tVar 1) (tCons (tOp (rAddU K) (tOp rSubU (tVar 3) (tVar 2)) (tC (.int 1))) tNil))))) (gName 4))
    (tRet (tM1 (rJoinU K) (tC (.str (tx []))) (tLc (iRng1 (tCons (tVar 4) tNil)) (gName 5) tYes (tOp (rIx K) (tC (.str (tx [97, 97, 98, 97, 98, 99]))) (tCallS (spD K F_law_pick) (WE W0) (tCons (tVar 0) (tCons (tOp (rAddU K) (tOp (rAddU K) (tVar 1) (tC (.int 1))) (tVar 5)) (tCons (tC (.int 6)) tNil))))) [5]))))
def t_law_step (K : PySem.W.Frag) (W : WX) : TS :=
  (tSeq (tPar 2 3 (tCons (tCallS (spD K F_law_word) (WE W) (tCons (tVar 0) (tCons (tVar 1) (tCons (tC (.int 1)) (tCons (tC (.int 4)) tNil))))) (tCons (tCallS (spD K F_law_word) (WE W) (tCons (tVar 0) (tCons (tOp (rAddU K) (tVar 1) (tC (.int 6))) (tCons (tC (.int 0)) (tCons (tC (.int 4)) tNil))))) tNil)))
    (tSeq (tAsg (tCallS (spD K F_law_pick) (WE W) (tCons (tVar 0) (tCons (tOp (rAddU K) (tVar 1) (tC (.int 12))) (tCons (tC (.int 8)) tNil)))) (gName 4))
    (tSeq (tIfS (tTest (tOp (rEqU K) (tVar 4) (tC (.int 0)))) (tAsg (tSl (rSlU K) (tOp (rAddU K) (tVar 2) (tC (.str (tx [98])))) tNoPart (tPart (tC (.int 4)))) (gName 3)) (tIfS (tTest (tOp (rEqU K) (tVar 4) (tC (.int 1)))) (tAsg (tRevS (tVar 2)) (gName 3)) (tIfS (tTest (tOp (rEqU K) (tVar 4) (tC (.int 2)))) (tAsg (tSl (rSlU K) (tVar 2) (tPart (tC (.int 1))) tNoPart) (gName 3)) (tIfS (tTest (tOp (rEqU K) (tVar 4) (tC (.int 3)))) (tPar 2 3 (tCons (tSl (rSlU K) (tVar 2) tNoPart (tPart (tC (.int 2)))) (tCons (tSl (rSlU K) (tVar 3) tNoPart (tPart (tC (.int 1)))) tNil))) tNext))))
    (tRet (tTup (tCons (tVar 2) (tCons (tVar 3) tNil)))))))
def t_law_done (K : PySem.W.Frag) (W : WX) : TS :=
  (tSeq (tAsg (tVar 0) (gTup K 2 (gCons (gName 2) (gCons (gName 3) gNil))))
    (tSeq (tAsg (tTup (tCons (tC (.str (tx []))) (tCons (tC (.int 0)) tNil))) (gTup K 2 (gCons (gName 4) (gCons (gName 5) gNil))))
    (tSeq (tWhile (tTest (tOp rLtU (tVar 5) (tCB (rLenU K) (tCons (tVar 1) tNil)))) (tIfS (tTest (tOp (rEqU K) (tSl (rSlU K) (tVar 1) (tPart (tVar 5)) (tPart (tOp (rAddU K) (tVar 5) (tCB (rLenU K) (tCons (tVar 2) tNil))))) (tVar 2))) (tPar 4 5 (tCons (tOp (rAddU K) (tVar 4) (tVar 3)) (tCons (tOp (rAddU K) (tVar 5) (tCB (rLenU K) (tCons (tVar 2) tNil))) tNil))) (tPar 4 5 (tCons (tOp (rAddU K) (tVar 4) (tOp (rIx K) (tVar 1) (tVar 5))) (tCons (tOp (rAddU K) (tVar 5) (tC (.int 1))) tNil)))))
    (tRet (tVar 4)))))
section
variable {K : PySem.W.Frag} {W : WX} {ds : List PyData} {sd : SD} {τ : Tau} {ta tb tc td : TE} {E : St → XK}
theorem div_small {i j : Int} (h0 : 0 < j) (h : j ≤ 100000000000000000000) : CDivW i j := wide_div (b := 70) h0 (by omega) (by decide) (by decide)
theorem atI_ns {ns : List Int} {k : Int} (hk : 0 ≤ k) (hn : ns.isEmpty = false) : atI ns (k % (ns.length : Int)) = some (cellOf ns k) := by
  have hl : 0 < ns.length := by
    cases ns with
    | nil => cases hn
    | cons a r => exact Nat.succ_pos _
  have h1 : 0 ≤ k % (ns.length : Int) := Int.emod_nonneg _ (by omega)
  have h2 : k % (ns.length : Int) < ns.length := Int.emod_lt_of_pos _ (by omega)
  unfold atI ixN cellOf
  rw [if_pos h1, if_pos h2, if_neg (by rw [hn]; exact Bool.false_ne_true)]
  show ns[(k % (ns.length : Int)).toNat]? = _
  have h3 : (k % (ns.length : Int)).toNat < ns.length := by omega
  rw [List.getD_eq_getElem?_getD, List.getElem?_eq_getElem h3]
  rfl
theorem ws_law_pick (h : F_law_pick ds sd) : WS K (t_law_pick K W) (startD 7 ds) (retE W sd) := by
  obtain ⟨ns, k, many, rfl, hn, hk, hm, rfl⟩ := h
  show WS K (t_law_pick K W) [.dt (scrD ns), .dt (.int k), .dt (.int many), .no, .no, .no, .no] _
  unfold t_law_pick
  have hmx : (if (1 : Int) > (ns.length : Int) then (1 : Int) else (ns.length : Int)) = ((max ns.length 1 : Nat) : Int) := by
    split <;> omega
  refine ws_seq (ws_set (sd := .dt (.int (cellOf ns k))) (ev_if (b := !ns.isEmpty) (et_test (ev_op (ev_var rfl) (EvX.frz (ev_lst ea_nil (Nat.zero_le _))) od_neS)) (fun hb => ?_) (fun hb => ?_)) ?_)
  · have hb := not_tt hb
    exact ev_op (ev_var rfl) (ev_op (ev_var rfl) (ev_cb (ea_cons (ev_var rfl) ea_nil) cd_lenS) (od_mod (by
      cases ns with
      | nil => cases hb
      | cons a r => rw [List.length_cons]; omega))) (od_ixS (atI_ns hk.1 hb))
  · have hb := not_ff hb
    have e : cellOf ns k = 0 := by unfold cellOf; rw [if_pos hb]
    rw [e]
    exact ev_int
  · refine ws_seq (ws_par (s1 := .dt (.int (cellOf ns k / 1000000000000000000))) (s2 := .dt (.int (k / (max ns.length 1 : Nat)))) ?_ ?_ ?_)
    · exact ev_op (ev_var rfl) (ev_is (ev_op ev_int ev_int (od_pow ⟨by decide, by decide, by decide⟩)) (d' := .int 1000000000000000000) (congrArg PyData.int (by decide))) (od_div (div_small (by decide) (by decide)))
    · refine ev_op (ev_var rfl) (ev_is (d' := .int ((max ns.length 1 : Nat) : Int)) (ev_cb (ea_cons (ev_cb (ea_cons (ev_var rfl) ea_nil) cd_lenS) (ea_cons ev_int ea_nil)) cd_max2) (by rw [hmx])) (od_div (div_small (by omega) (by omega)))
    · have hq : 0 ≤ k / ((max ns.length 1 : Nat) : Int) := Int.ediv_nonneg hk.1 (by omega)
      refine ws_seq (ws_while (fun m τ => ∃ (r : Int), τ = [.dt (scrD ns), .dt (.int k), .dt (.int many), .dt (.int (cellOf ns k)), .dt (.int r), .dt (.int (m : Int)), .no] ∧ wheel m r = pickL ns k) (k / (max ns.length 1 : Nat)).toNat ⟨_, by rw [Int.toNat_of_nonneg hq]; rfl, rfl⟩ ?_)
      rintro m τ ⟨r, rfl, hw⟩
      refine ⟨decide (0 < r) && decide (0 < (m : Int)), by walk_at "ev", fun hb => ?_, fun hb => ?_⟩
      · rw [Bool.and_eq_true, decide_eq_true_eq, decide_eq_true_eq] at hb
        obtain ⟨j, rfl⟩ : ∃ j, m = j + 1 := ⟨m - 1, by omega⟩
        refine ws_par (s1 := .dt (.int (r / 840))) (s2 := .dt (.int (j : Int))) (ev_op (ev_var rfl) ev_int (od_div (div_small (by decide) (by decide)))) (ev_is (ev_op (ev_var rfl) ev_int od_sub) (by congr 1; omega)) ⟨j, by omega, _, rfl, ?_⟩
        rw [← hw, wheel, if_pos hb.1]
      · have hr : r = pickL ns k := by
          rw [← hw]
          cases m with
          | zero => rfl
          | succ j =>
            rw [wheel]
            rw [Bool.and_eq_false_iff, decide_eq_false_iff_not, decide_eq_false_iff_not] at hb
            rw [if_neg (by omega)]
        subst hr
        refine ws_seq (ws_if (b := decide (0 < pickL ns k)) (by walk_at "ev") (fun hc => ?_) (fun hc => ?_))
        · refine ws_ret (ev_op (ev_op (ev_var rfl) ev_int (od_mod (by decide))) (ev_var rfl) (od_mod (by omega))) ?_
          show _ = SD.dt (.int (pick ns k many))
          unfold pick
          rw [if_pos (of_decide_eq_true hc)]
        · refine ws_next (ws_seq (ws_set (sd := .dt (.int (drawnOf ns k))) ?_ ?_))
          · exact ev_op (ev_op (ev_op (ev_op (ev_var rfl) ev_int (od_mul_int (.inr ⟨by decide, by decide⟩))) (ev_op ev_int (ev_op (ev_var rfl) ev_int od_add_int) (od_mul_int (.inl ⟨by decide, by decide⟩))) od_add_int) ev_int (od_mul_int (.inr ⟨by decide, by decide⟩))) ev_int (od_mod (by decide))
          · have hd1 : 0 ≤ drawnOf ns k := by unfold drawnOf; exact Int.emod_nonneg _ (by decide)
            have hd2 : drawnOf ns k < 2147483399 := by unfold drawnOf; exact Int.emod_lt_of_pos _ (by decide)
            refine ws_ret (ev_op (ev_op (ev_op (ev_op (ev_var rfl) (ev_var rfl) (od_mul_int (.inl ⟨by omega, by omega⟩))) (ev_op (ev_var rfl) ev_int (od_div (div_small (by decide) (by decide)))) od_add_int) ev_int (od_mod (by decide))) (ev_var rfl) (od_mod (by omega))) ?_
            show _ = SD.dt (.int (pick ns k many))
            unfold pick
            rw [if_neg (of_decide_eq_false hc)]
theorem e_law_pick {ns : List Int} {k many : Int} (ha : EvS K ta τ (scrD ns)) (hb : EvS K tb τ (.int k)) (hc : EvS K tc τ (.int many)) (hn : Sc ns) (hk : Kb k) (hm : 1 ≤ many ∧ many ≤ 100000) : EvX K (tCallS (spD K F_law_pick) E (tCons ta (tCons tb (tCons tc tNil)))) τ (.dt (.int (pick ns k many))) :=
  ev_call (ea_cons ha (ea_cons hb (ea_cons hc ea_nil))) ⟨ns, k, many, rfl, hn, hk, hm, rfl⟩
/-- the draw as a natural number -/
theorem e_law_pickN {ns : List Int} {k : Int} {many : Int} {m : Nat} (ha : EvS K ta τ (scrD ns)) (hb : EvS K tb τ (.int k)) (hc : EvS K tc τ (.int many)) (he : many = (m : Int)) (hn : Sc ns) (hk : Kb k) (hm : 1 ≤ m ∧ m ≤ 100000) : EvX K (tCallS (spD K F_law_pick) E (tCons ta (tCons tb (tCons tc tNil)))) τ (.dt (.int ((pickN ns k m : Nat) : Int))) := by
  subst he
  rw [← pickN_eq ns k hm.1]
  exact e_law_pick ha hb hc hn hk (by omega)
theorem ws_law_word (h : F_law_word ds sd) : WS K (t_law_word K W) (startD 6 ds) (retE W sd) := by
  obtain ⟨ns, k, least, most, rfl, hn, hk, hm, rfl⟩ := h
  show WS K (t_law_word K W) [.dt (scrD ns), .dt (.int k), .dt (.int least), .dt (.int most), .no, .no] _
  unfold t_law_word
  have hlt := pickN_lt ns k (many := most - least + 1) (by omega)
  refine ws_seq (ws_set (sd := .dt (.int ((least + pickN ns k (most - least + 1) : Nat) : Int))) ?_ ?_)
  · refine ev_is (ev_op (ev_var rfl) (e_law_pickN (m := most - least + 1) (ev_var rfl) (ev_var rfl) (ev_op (ev_op (ev_var rfl) (ev_var rfl) od_sub) ev_int od_add_int) (by omega) hn (by omega) (by omega)) od_add_int) ?_
    rw [Int.natCast_add]
  · generalize hsz : least + pickN ns k (most - least + 1) = size
    have e1 : ((List.range size).map fun (i : Nat) => PyData.int (0 + (i : Int))) = rng 0 size := rfl
    have hw : wordOf ns k least most = (List.range size).map fun (i : Nat) => [97, 97, 98, 97, 98, 99].getD (pickN ns (k + 1 + (i : Int)) 6) 97 := by unfold wordOf; rw [hsz]
    have hfl : ((List.range size).map fun (i : Nat) => [[97, 97, 98, 97, 98, 99].getD (pickN ns (k + 1 + (i : Int)) 6) 97]).flatten = wordOf ns k least most := by
      rw [hw]
      generalize List.range size = l
      induction l with
      | nil => rfl
      | cons a l ih => rw [List.map_cons, List.flatten_cons, ih]; rfl
    refine ws_ret (sd := .dt (T (wordOf ns k least most))) (ev_is (ev_join0 (ys := (List.range size).map fun (i : Nat) => [[97, 97, 98, 97, 98, 99].getD (pickN ns (k + 1 + (i : Int)) 6) 97]) ev_str ?_ ?_) ?_) ?_
    · rw [List.map_map]
      refine EvX.frz (ev_lcM (l := List.range size) (d := fun (i : Nat) => PyData.int (0 + (i : Int))) (fun (i : Nat) => T [[97, 97, 98, 97, 98, 99].getD (pickN ns (k + 1 + (i : Int)) 6) 97]) ?_ (by rw [List.length_range]; walk_at "sz") fun i hi => ⟨_, te_name (by decide), ?_⟩)
      · rw [e1]
        have h := in_range1 (K := K) (τ := dv [SD.dt (scrD ns), .dt (.int k), .dt (.int least), .dt (.int most), .dt (.int (size : Int)), .no]) (n := (size : Int)) (ea_cons (ev_var (i := 4) rfl) ea_nil) (by omega) (by omega)
        exact h.e
      · have hi := List.mem_range.mp hi
        have hp := pickN_lt ns (k + 1 + (i : Int)) (many := 6) (by omega)
        refine ev_op ev_str (e_law_pickN (k := k + 1 + (i : Int)) (m := 6) (ev_var rfl) (ev_is (ev_op (ev_op (ev_var rfl) ev_int od_add_int) (ev_var rfl) od_add_int) (by congr 1; omega)) ev_int rfl hn (by omega) (by omega)) (od_ixT (by show 6 ≤ sizeLine; decide) ?_)
        generalize pickN ns (k + 1 + (i : Int)) 6 = n at hp
        match n, hp with
        | 0, _ => rfl
        | 1, _ => rfl
        | 2, _ => rfl
        | 3, _ => rfl
        | 4, _ => rfl
        | 5, _ => rfl
    · rw [hfl]
      have := (word_len ns k hm.1).2
      omega
    · rw [hfl]
    · rfl
theorem e_law_word {ns : List Int} {k l m : Int} {least most : Nat} (ha : EvS K ta τ (scrD ns)) (hb : EvS K tb τ (.int k)) (hc : EvS K tc τ (.int l)) (hd : EvS K td τ (.int m)) (hl : l = (least : Int)) (hm2 : m = (most : Int)) (hn : Sc ns) (hk : 0 ≤ k ∧ k ≤ 10000) (hm : least ≤ most ∧ most ≤ 1000) :
    EvX K (tCallS (spD K F_law_word) E (tCons ta (tCons tb (tCons tc (tCons td tNil))))) τ (.dt (T (wordOf ns k least most))) := by
  subst hl hm2
  exact ev_call (ea_cons ha (ea_cons hb (ea_cons hc (ea_cons hd ea_nil)))) ⟨ns, k, least, most, rfl, hn, hk, hm, rfl⟩
theorem ws_law_step (h : F_law_step ds sd) : WS K (t_law_step K W) (startD 5 ds) (retE W sd) := by
  obtain ⟨ns, k, rfl, hn, hk, rfl⟩ := h
  show WS K (t_law_step K W) [.dt (scrD ns), .dt (.int k), .no, .no, .no] _
  unfold t_law_step
  have h1 := word_len ns k (least := 1) (most := 4) (by omega)
  have h2 := word_len ns (k + 6) (least := 0) (most := 4) (by omega)
  have hs := pickN_lt ns (k + 12) (many := 8) (by omega)
  refine ws_seq (ws_par (s1 := .dt (T (wordOf ns k 1 4))) (s2 := .dt (T (wordOf ns (k + 6) 0 4))) (e_law_word (ev_var rfl) (ev_var rfl) ev_int ev_int rfl rfl hn (by omega) (by omega)) (e_law_word (ev_var rfl) (ev_op (ev_var rfl) ev_int od_add_int) ev_int ev_int rfl rfl hn (by omega) (by omega)) ?_)
  refine ws_seq (ws_set (sd := .dt (.int ((pickN ns (k + 12) 8 : Nat) : Int))) (e_law_pickN (ev_var rfl) (ev_op (ev_var rfl) ev_int od_add_int) ev_int rfl hn (by omega) (by omega)) ?_)
  have hst : stepOf ns k = if pickN ns (k + 12) 8 = 0 then (wordOf ns k 1 4, (wordOf ns k 1 4 ++ [98]).take 4) else if pickN ns (k + 12) 8 = 1 then (wordOf ns k 1 4, (wordOf ns k 1 4).reverse) else if pickN ns (k + 12) 8 = 2 then (wordOf ns k 1 4, (wordOf ns k 1 4).drop 1) else if pickN ns (k + 12) 8 = 3 then ((wordOf ns k 1 4).take 2, (wordOf ns (k + 6) 0 4).take 1) else (wordOf ns k 1 4, wordOf ns (k + 6) 0 4) := rfl
  generalize wordOf ns k 1 4 = old at *
  generalize wordOf ns (k + 6) 0 4 = new at *
  generalize pickN ns (k + 12) 8 = n at *
  apply ws_seq
  have nc : ∀ (a : Nat) (b : Int), b = (a : Int) → decide ((n : Int) = b) = decide (n = a) := fun a b e => by rw [Bool.eq_iff_iff]; simp only [decide_eq_true_eq]; omega
  refine ws_if (b := decide (n = 0)) (et_is (by walk_at "ev") (nc 0 0 rfl)) (fun c0 => ?_) (fun c0 => ?_)
  · have c0 := of_decide_eq_true c0
    rw [if_pos c0] at hst
    refine ws_set (sd := .dt (T ((old ++ [98]).take 4))) (ev_sl (ev_op (ev_var rfl) ev_str (od_addT (by walk_at "sz"))) eo_none (eo_some ev_int) (sd_TRn (a := 4) rfl (by walk_at "sz"))) (ws_ret (ev_tup (ea_cons (ev_var rfl) (ea_cons (ev_var rfl) ea_nil)) (by walk_at "sz")) ?_)
    rw [hst]
  · have c0 := of_decide_eq_false c0
    rw [if_neg c0] at hst
    refine ws_if (b := decide (n = 1)) (et_is (by walk_at "ev") (nc 1 1 rfl)) (fun c1 => ?_) (fun c1 => ?_)
    · have c1 := of_decide_eq_true c1
      rw [if_pos c1] at hst
      refine ws_set (sd := .dt (T old.reverse)) (ev_revT (ev_var rfl) (by walk_at "sz")) (ws_ret (ev_tup (ea_cons (ev_var rfl) (ea_cons (ev_var rfl) ea_nil)) (by walk_at "sz")) ?_)
      rw [hst]
    · have c1 := of_decide_eq_false c1
      rw [if_neg c1] at hst
      refine ws_if (b := decide (n = 2)) (et_is (by walk_at "ev") (nc 2 2 rfl)) (fun c2 => ?_) (fun c2 => ?_)
      · have c2 := of_decide_eq_true c2
        rw [if_pos c2] at hst
        refine ws_set (sd := .dt (T (old.drop 1))) (ev_sl (ev_var rfl) (eo_some ev_int) eo_none (sd_TLn (a := 1) rfl (by walk_at "sz"))) (ws_ret (ev_tup (ea_cons (ev_var rfl) (ea_cons (ev_var rfl) ea_nil)) (by walk_at "sz")) ?_)
        rw [hst]
      · have c2 := of_decide_eq_false c2
        rw [if_neg c2] at hst
        refine ws_if (b := decide (n = 3)) (et_is (by walk_at "ev") (nc 3 3 rfl)) (fun c3 => ?_) (fun c3 => ?_)
        · have c3 := of_decide_eq_true c3
          rw [if_pos c3] at hst
          refine ws_par (s1 := .dt (T (old.take 2))) (s2 := .dt (T (new.take 1))) (ev_sl (ev_var rfl) eo_none (eo_some ev_int) (sd_TRn (a := 2) rfl (by walk_at "sz"))) (ev_sl (ev_var rfl) eo_none (eo_some ev_int) (sd_TRn (a := 1) rfl (by walk_at "sz"))) (ws_ret (ev_tup (ea_cons (ev_var rfl) (ea_cons (ev_var rfl) ea_nil)) (by walk_at "sz")) ?_)
          rw [hst]
        · have c3 := of_decide_eq_false c3
          rw [if_neg c3] at hst
          refine ws_next (ws_ret (ev_tup (ea_cons (ev_var rfl) (ea_cons (ev_var rfl) ea_nil)) (by walk_at "sz")) ?_)
          rw [hst]
theorem e_law_step {ns : List Int} {k : Int} (ha : EvS K ta τ (scrD ns)) (hb : EvS K tb τ (.int k)) (hn : Sc ns) (hk : 0 ≤ k ∧ k ≤ 9000) : EvX K (tCallS (spD K F_law_step) E (tCons ta (tCons tb tNil))) τ (.dt (rep (stepOf ns k).1 (stepOf ns k).2)) :=
  ev_call (ea_cons ha (ea_cons hb ea_nil)) ⟨ns, k, rfl, hn, hk, rfl⟩
theorem drop_cons {text : List Nat} {p : Nat} (h : p < text.length) : text.drop p = text.getD p 0 :: text.drop (p + 1) := by
  rw [List.drop_eq_getElem_cons h, List.getD_eq_getElem?_getD, List.getElem?_eq_getElem h]
  rfl
theorem atI_text {text : List Nat} {p : Nat} (h : p < text.length) : atI text (p : Int) = some (text.getD p 0) := by
  unfold atI ixN
  rw [if_pos (by omega), if_pos (by omega)]
  show text[((p : Nat) : Int).toNat]? = _
  rw [Int.toNat_natCast, List.getD_eq_getElem?_getD, List.getElem?_eq_getElem h]
  rfl
theorem ws_law_done (h : F_law_done ds sd) : WS K (t_law_done K W) (startD 6 ds) (retE W sd) := by
  obtain ⟨old, new, text, rfl, hr, hf, rfl⟩ := h
  have hne := hr.ne
  have ho1 := hr.o1
  have ho4 := hr.o4
  have hn4 := hr.n4
  show WS K (t_law_done K W) [.dt (rep old new), .dt (T text), .no, .no, .no, .no] _
  unfold t_law_done
  refine ws_seq (ws_asg (ev_var rfl) (tg_tup (tgs_cons tg_name (tgs_cons tg_name tgs_nil)) rfl) ?_)
  refine ws_seq (ws_asg (ev_tup (ea_cons ev_str (ea_cons ev_int ea_nil)) (by walk_at "sz")) (tg_tup (tgs_cons tg_name (tgs_cons tg_name tgs_nil)) rfl) ?_)
  have hrl := rsl_len old new 0 text
  have hfit : (result old new text).length ≤ 5000000 := by
    have : text.length * (new.length + 1) ≤ 1000000 * 5 := Nat.mul_le_mul hf (by omega)
    have : (rsl old new 0 text).length ≤ 5000000 := by omega
    exact this
  refine ws_seq (ws_while (fun m τ => ∃ (p : Nat) (found : List Nat), τ = [.dt (rep old new), .dt (T text), .dt (T old), .dt (T new), .dt (T found), .dt (.int (p : Int))] ∧ p ≤ text.length ∧ found ++ rsl old new 0 (text.drop p) = result old new text ∧ m = text.length - p) text.length ⟨0, [], rfl, Nat.zero_le _, by simp, rfl⟩ ?_)
  rintro m τ ⟨p, found, rfl, hp, hpl, rfl⟩
  refine ⟨decide ((p : Int) < text.length), by walk_at "ev", fun hb => ?_, fun hb => ?_⟩
  · have hb : p < text.length := by have := of_decide_eq_true hb; omega
    have hd := drop_cons hb
    refine ws_if (b := decide (old <+: text.drop p)) ?_ (fun hc => ?_) (fun hc => ?_)
    · apply et_is
      · walk_at "ev"
      · rw [Bool.eq_iff_iff, Nat.add_sub_cancel_left]; simp only [decide_eq_true_eq]; exact pre_iff old text p
    · have hc : old <+: text.drop p := by simpa using hc
      have hl := hc.length_le
      rw [List.length_drop] at hl
      rw [rsl_yes hne hc, List.drop_drop] at hpl
      have hlen := congrArg List.length hpl
      simp only [List.length_append] at hlen
      refine ws_par (s1 := .dt (T (found ++ new))) (s2 := .dt (.int ((p + old.length : Nat) : Int))) (by walk_at "ev") (ev_is (d := .int ((p : Int) + (old.length : Int))) (by walk_at "ev") (by rw [Int.natCast_add])) ?_
      exact ⟨text.length - (p + old.length), by omega, p + old.length, found ++ new, rfl, by omega, by rw [← hpl, List.append_assoc], rfl⟩
    · have hc : ¬ old <+: text.drop p := by simpa using hc
      rw [hd] at hc hpl
      rw [rsl_no hc] at hpl
      have hlen := congrArg List.length hpl
      simp only [List.length_append, List.length_cons] at hlen
      refine ws_par (s1 := .dt (T (found ++ [text.getD p 0]))) (s2 := .dt (.int ((p + 1 : Nat) : Int))) (ev_op (ev_var rfl) (ev_op (ev_var rfl) (ev_var rfl) (od_ixT (by walk_at "sz") (atI_text hb))) (od_addT (by walk_at "sz"))) (ev_is (d := .int ((p : Int) + 1)) (by walk_at "ev") (by rw [Int.natCast_add]; rfl)) ?_
      exact ⟨text.length - (p + 1), by omega, p + 1, found ++ [text.getD p 0], rfl, by omega, by rw [← hpl, List.append_assoc]; rfl, rfl⟩
  · have hb : text.length ≤ p := by have := of_decide_eq_false hb; omega
    rw [List.drop_of_length_le hb] at hpl
    have hpl : found ++ [] = result old new text := hpl
    rw [List.append_nil] at hpl
    exact ws_ret (ev_var rfl) (by rw [hpl])
theorem e_law_done {old new text : List Nat} (ha : EvS K ta τ (rep old new)) (hb : EvS K tb τ (T text)) (h : Rp old new) (hf : Fit text) : EvX K (tCallS (spD K F_law_done) E (tCons ta (tCons tb tNil))) τ (.dt (T (result old new text))) :=
  ev_call (ea_cons ha (ea_cons hb ea_nil)) ⟨old, new, text, rfl, h, hf, rfl⟩
end
end Sw
/-! part SwN -/
set_option Elab.async false
set_option linter.all false
set_option maxRecDepth 100000
set_option maxHeartbeats 4000000
namespace Sw
/-! ## the mathematics of a search level by level, over texts in the order of their length and signs -/
def rk (t : List Nat) : Nat := t.foldl (fun n c => 3 * n + (c - 96)) 0
theorem rk_app (t : List Nat) (c : Nat) : rk (t ++ [c]) = 3 * rk t + (c - 96) := by unfold rk; rw [List.foldl_append]; rfl
theorem last_or (l : List Nat) : l = [] ∨ ∃ L b, l = L ++ [b] := by
  rcases List.eq_nil_or_concat l with h | ⟨L, b, h⟩
  · exact .inl h
  · exact .inr ⟨L, b, by rw [h, List.concat_eq_append]⟩
theorem abc_l {u : List Nat} {c : Nat} (h : abc (u ++ [c])) : abc u ∧ (c = 97 ∨ c = 98 ∨ c = 99) := ⟨fun x hx => h x (List.mem_append_left _ hx), h c (by simp)⟩
theorem rk_inj : ∀ (n : Nat) (u v : List Nat), u.length = n → abc u → abc v → rk u = rk v → u = v := by
  intro n
  induction n with
  | zero =>
    intro u v hl hu hv e
    have hu0 : u = [] := List.length_eq_zero_iff.mp hl
    subst hu0
    rcases last_or v with h | ⟨L, b, h⟩
    · exact h.symm
    · subst h
      rw [rk_app] at e
      have := (abc_l hv).2
      have e0 : rk [] = 0 := rfl
      omega
  | succ n ih =>
    intro u v hl hu hv e
    rcases last_or u with h | ⟨L, b, h⟩
    · subst h; cases hl
    · subst h
      rcases last_or v with h | ⟨M, d, h⟩
      · subst h
        rw [rk_app] at e
        have := (abc_l hu).2
        have e0 : rk [] = 0 := rfl
        omega
      · subst h
        rw [rk_app, rk_app] at e
        have h1 := (abc_l hu).2
        have h2 := (abc_l hv).2
        have e1 : rk L = rk M := by omega
        have e2 : b = d := by omega
        rw [ih L M (by simpa using hl) (abc_l hu).1 (abc_l hv).1 e1, e2]
/-- the first text that is good -/
def IsFirst (good : List Nat → Prop) : Option (List Nat) → Prop
  | none => ∀ t, abc t → ¬ good t
  | some t => abc t ∧ good t ∧ ∀ v, abc v → rk v < rk t → ¬ good v
theorem IsFirst.uniq {good : List Nat → Prop} : ∀ {a b : Option (List Nat)}, IsFirst good a → IsFirst good b → a = b
  | none, none, _, _ => rfl
  | none, some t, h, k => absurd k.2.1 (h t k.1)
  | some t, none, h, k => absurd h.2.1 (k t h.1)
  | some t, some u, h, k => by
    have h1 : ¬ rk u < rk t := fun z => h.2.2 u k.1 z k.2.1
    have h2 : ¬ rk t < rk u := fun z => k.2.2 t h.1 z h.2.1
    rw [rk_inj _ t u rfl h.1 k.1 (by omega)]
theorem IsFirst.ex (good : List Nat → Prop) : ∃ o, IsFirst good o := by
  by_cases h : ∃ t, abc t ∧ good t
  · obtain ⟨t, h1, h2⟩ := h
    have key : ∀ n t, rk t = n → abc t → good t → ∃ o, IsFirst good o := by
      intro n
      induction n using Nat.strongRecOn with
      | _ n ih =>
        intro t e h1 h2
        by_cases z : ∃ v, abc v ∧ rk v < rk t ∧ good v
        · obtain ⟨v, z1, z2, z3⟩ := z
          exact ih (rk v) (by omega) v rfl z1 z3
        · exact ⟨some t, h1, h2, fun v z1 z2 z3 => z ⟨v, z1, z2, z3⟩⟩
    exact key _ t rfl h1 h2
  · exact ⟨none, fun t h1 h2 => h ⟨t, h1, h2⟩⟩
section
variable {S : Type} (st : List Nat → S) (G : S → Prop)
structure Srch (N : List (List Nat)) (p : Nat) : Prop where
  ab : ∀ t ∈ N, abc t
  srt : ∀ (i j : Nat) (a b : List Nat), i < j → N[i]? = some a → N[j]? = some b → rk a < rk b
  root : [] ∈ N
  kid : ∀ (i : Nat) (t : List Nat), i < p → N[i]? = some t → ∀ c, (c = 97 ∨ c = 98 ∨ c = 99) → ∃ r ∈ N, st r = st (t ++ [c]) ∧ rk r ≤ rk (t ++ [c])
  bad : ∀ (i : Nat) (t : List Nat), i < p → N[i]? = some t → ¬ G (st t)
variable {st G} {N : List (List Nat)} {p : Nat}
theorem Srch.look (h : Srch st G N p) (hd : ∀ u v c, st u = st v → st (u ++ [c]) = st (v ++ [c])) : ∀ (n : Nat) (v : List Nat), v.length = n → abc v →
    (∃ r ∈ N, st r = st v ∧ rk r ≤ rk v) ∨ ∃ j q, p ≤ j ∧ N[j]? = some q ∧ rk q < rk v := by
  intro n
  induction n with
  | zero =>
    intro v hl hv
    have e : v = [] := List.length_eq_zero_iff.mp hl
    subst e
    exact .inl ⟨[], h.root, rfl, Nat.le_refl _⟩
  | succ n ih =>
    intro v hl hv
    rcases last_or v with e | ⟨u, c, e⟩
    · subst e; cases hl
    · subst e
      have hc := (abc_l hv).2
      rcases ih u (by simpa using hl) (abc_l hv).1 with ⟨r, hr, e1, e2⟩ | ⟨j, q, h1, h2, h3⟩
      · obtain ⟨i, hi⟩ := List.mem_iff_getElem?.mp hr
        by_cases hp : i < p
        · obtain ⟨r', k1, k2, k3⟩ := h.kid i r hp hi c hc
          refine .inl ⟨r', k1, k2.trans (hd r u c e1), ?_⟩
          rw [rk_app] at k3 ⊢
          omega
        · refine .inr ⟨i, r, by omega, hi, ?_⟩
          rw [rk_app]
          omega
      · refine .inr ⟨j, q, h1, h2, ?_⟩
        rw [rk_app]
        omega
theorem Srch.found (h : Srch st G N p) (hd : ∀ u v c, st u = st v → st (u ++ [c]) = st (v ++ [c])) {x : List Nat} (hx : N[p]? = some x) (hg : G (st x)) : IsFirst (fun t => G (st t)) (some x) := by
  refine ⟨h.ab x (List.mem_of_getElem? hx), hg, fun v hv hlt hgv => ?_⟩
  rcases h.look hd _ v rfl hv with ⟨r, hr, e1, e2⟩ | ⟨j, q, h1, h2, h3⟩
  · obtain ⟨i, hi⟩ := List.mem_iff_getElem?.mp hr
    have hip : i < p := by
      rcases Nat.lt_trichotomy i p with z | z | z
      · exact z
      · subst z
        rw [hi] at hx
        cases hx
        omega
      · have := h.srt p i x r z hx hi
        omega
    exact h.bad i r hip hi (e1 ▸ hgv)
  · rcases Nat.lt_or_ge p j with z | z
    · have := h.srt p j x q z hx h2
      omega
    · have e : j = p := by omega
      subst e
      rw [h2] at hx
      cases hx
      omega
theorem Srch.done (h : Srch st G N p) (hd : ∀ u v c, st u = st v → st (u ++ [c]) = st (v ++ [c])) (hp : N.length ≤ p) : IsFirst (fun t => G (st t)) none := by
  intro v hv hgv
  rcases h.look hd _ v rfl hv with ⟨r, hr, e1, e2⟩ | ⟨j, q, h1, h2, h3⟩
  · obtain ⟨i, hi⟩ := List.mem_iff_getElem?.mp hr
    have hl := (List.getElem?_eq_some_iff.mp hi).1
    exact h.bad i r (by omega) hi (e1 ▸ hgv)
  · have hl := (List.getElem?_eq_some_iff.mp h2).1
    omega
/-- one node more -/
theorem Srch.more (h : Srch st G N p) (hp : p ≤ N.length) {x : List Nat} (hx : abc x) (hl : ∀ r ∈ N, rk r < rk x) : Srch st G (N ++ [x]) p where
  ab := fun t ht => by
    rcases List.mem_append.mp ht with z | z
    · exact h.ab t z
    · rw [List.mem_singleton.mp z]; exact hx
  srt := fun i j a b hij ha hb => by
    rcases Nat.lt_or_ge j N.length with z | z
    · rw [List.getElem?_append_left z] at hb
      rw [List.getElem?_append_left (by omega)] at ha
      exact h.srt i j a b hij ha hb
    · rw [List.getElem?_append_right z] at hb
      have hj : j - N.length = 0 := by
        have := (List.getElem?_eq_some_iff.mp hb).1
        rw [List.length_singleton] at this
        omega
      rw [hj] at hb
      have e : x = b := Option.some.inj hb
      subst e
      rw [List.getElem?_append_left (by omega)] at ha
      exact hl a (List.mem_of_getElem? ha)
  root := List.mem_append_left _ h.root
  kid := fun i t hi ht c hc => by
    by_cases z : i < N.length
    · rw [List.getElem?_append_left z] at ht
      obtain ⟨r, h1, h2⟩ := h.kid i t hi ht c hc
      exact ⟨r, List.mem_append_left _ h1, h2⟩
    · omega
  bad := fun i t hi ht => by
    by_cases z : i < N.length
    · rw [List.getElem?_append_left z] at ht
      exact h.bad i t hi ht
    · omega
theorem Srch.next (h : Srch st G N p) {x : List Nat} (hx : N[p]? = some x) (hg : ¬ G (st x)) (hk : ∀ c, (c = 97 ∨ c = 98 ∨ c = 99) → ∃ r ∈ N, st r = st (x ++ [c]) ∧ rk r ≤ rk (x ++ [c])) : Srch st G N (p + 1) where
  ab := h.ab
  srt := h.srt
  root := h.root
  kid := fun i t hi ht c hc => by
    rcases Nat.lt_or_ge i p with z | z
    · exact h.kid i t z ht c hc
    · have e : i = p := by omega
      subst e
      rw [hx] at ht
      cases ht
      exact hk c hc
  bad := fun i t hi ht => by
    rcases Nat.lt_or_ge i p with z | z
    · exact h.bad i t z ht
    · have e : i = p := by omega
      subst e
      rw [hx] at ht
      cases ht
      exact hg
theorem Srch.start : Srch st G [[]] 0 where
  ab := fun t ht => by rw [List.mem_singleton.mp ht]; exact abc_nil
  srt := fun i j a b hij ha hb => by
    have := (List.getElem?_eq_some_iff.mp hb).1
    rw [List.length_singleton] at this
    omega
  root := List.mem_singleton.mpr rfl
  kid := fun i t hi => absurd hi (Nat.not_lt_zero _)
  bad := fun i t hi => absurd hi (Nat.not_lt_zero _)
end
theorem nd_le {α : Type} [DecidableEq α] : ∀ (l m : List α), l.Nodup → (∀ x ∈ l, x ∈ m) → l.length ≤ m.length
  | [], m, _, _ => Nat.zero_le _
  | x :: l, m, hn, hs => by
    rw [List.nodup_cons] at hn
    have hx := hs x List.mem_cons_self
    have h := nd_le l (m.erase x) hn.2 fun y hy => by
      have hne : y ≠ x := fun z => hn.1 (z ▸ hy)
      exact (List.mem_erase_of_ne hne).mpr (hs y (List.mem_cons_of_mem _ hy))
    rw [List.length_erase_of_mem hx] at h
    have : 0 < m.length := List.length_pos_of_mem hx
    rw [List.length_cons]
    omega
end Sw
/-! part SwR -/
set_option Elab.async false
set_option linter.all false
set_option maxRecDepth 100000
set_option maxHeartbeats 4000000
namespace Sw
/-! ## the mathematics of reading a text sign by sign -/
/-- the greatest size up to n at which an end of text is a beginning of word -/
def lsz (text word : List Nat) : Nat → Nat
  | 0 => 0
  | n + 1 => if text.drop (text.length - (n + 1)) = word.take (n + 1) then n + 1 else lsz text word n
def lend (text word : List Nat) : List Nat := text.drop (text.length - lsz text word (min text.length (word.length - 1)))
theorem lsz_le (text word : List Nat) : ∀ n, lsz text word n ≤ n
  | 0 => Nat.le_refl _
  | n + 1 => by
    unfold lsz
    split
    · exact Nat.le_refl _
    · have := lsz_le text word n; omega
theorem lsz_at (text word : List Nat) : ∀ n, text.drop (text.length - lsz text word n) = word.take (lsz text word n)
  | 0 => by show text.drop (text.length - 0) = word.take 0; simp
  | n + 1 => by
    unfold lsz
    split
    · assumption
    · exact lsz_at text word n
theorem lsz_max (text word : List Nat) : ∀ n m, m ≤ n → text.drop (text.length - m) = word.take m → m ≤ lsz text word n
  | 0, m, h, _ => by omega
  | n + 1, m, h, e => by
    unfold lsz
    split
    · exact h
    · rename_i hne
      have : m ≠ n + 1 := fun z => hne (z ▸ e)
      exact lsz_max text word n m (by omega) e
theorem lend_len (text word : List Nat) : (lend text word).length = lsz text word (min text.length (word.length - 1)) := by
  have := lsz_le text word (min text.length (word.length - 1))
  unfold lend
  rw [List.length_drop]
  omega
theorem lend_lt {text word : List Nat} (h : 1 ≤ word.length) : (lend text word).length < word.length := by
  have := lsz_le text word (min text.length (word.length - 1))
  rw [lend_len]
  omega
theorem lend_le (text word : List Nat) : (lend text word).length ≤ text.length := by unfold lend; rw [List.length_drop]; omega
theorem lend_pre (text word : List Nat) : lend text word = word.take (lend text word).length := by
  have h := lsz_at text word (min text.length (word.length - 1))
  rw [lend_len]
  exact h
theorem lend_sub {text word : List Nat} (h : abc text) : abc (lend text word) := abc_drop _ h
/-- what stays pending, what is put out -/
def rds (old new p : List Nat) (c : Nat) : List Nat × List Nat :=
  if p ++ [c] = old then ([], new) else (lend (p ++ [c]) old, (p ++ [c]).take ((p ++ [c]).length - (lend (p ++ [c]) old).length))
/-- a beginning of the word, not the whole -/
def Pre (old p : List Nat) : Prop := p = old.take p.length ∧ p.length < old.length
theorem pre_nil {old : List Nat} (h : 1 ≤ old.length) : Pre old [] := ⟨rfl, h⟩
theorem pre_lend {old : List Nat} (h : 1 ≤ old.length) (t : List Nat) : Pre old (lend t old) := ⟨lend_pre t old, lend_lt h⟩
theorem pre_rds {old new p : List Nat} {c : Nat} (h : 1 ≤ old.length) : Pre old (rds old new p c).1 := by
  unfold rds
  split
  · exact pre_nil h
  · exact pre_lend h _
/-- nothing begins in what is given up -/
theorem no_start {old p r : List Nat} {c : Nat} (hp : Pre old p) (hne : p ++ [c] ≠ old) : ∀ j, j < (p ++ [c]).length - (lend (p ++ [c]) old).length → ¬ old <+: (p ++ [c] ++ r).drop j := by
  intro j hj hpre
  have hl : (p ++ [c]).length ≤ old.length := by rw [List.length_append, List.length_singleton]; have := hp.2; omega
  generalize ht : p ++ [c] = t at *
  have hj2 : j < t.length := by omega
  have e1 : (t ++ r).drop j = t.drop j ++ r := by rw [List.drop_append_of_le_length (by omega)]
  rw [e1] at hpre
  have hdl : (t.drop j).length = t.length - j := List.length_drop
  have e2 : t.drop j = old.take (t.length - j) := by
    obtain ⟨q, hq⟩ := hpre
    have h5 : (old ++ q).take (t.length - j) = old.take (t.length - j) := List.take_append_of_le_length (by omega)
    have h6 : (t.drop j ++ r).take (t.length - j) = t.drop j := List.take_left' hdl
    rw [hq, h6] at h5
    exact h5
  by_cases z : t.length - j ≤ old.length - 1
  · have h3 : t.drop (t.length - (t.length - j)) = old.take (t.length - j) := by
      rw [show t.length - (t.length - j) = j by omega]; exact e2
    have h4 := lsz_max t old (min t.length (old.length - 1)) (t.length - j) (by omega) h3
    rw [lend_len] at hj
    omega
  · have hj0 : j = 0 := by omega
    subst hj0
    rw [List.drop_zero, List.take_of_length_le (by omega)] at e2
    exact hne e2
theorem rsl_pass {old new : List Nat} : ∀ (k : Nat) (u : List Nat), k ≤ u.length → (∀ j, j < k → ¬ old <+: u.drop j) → rsl old new 0 u = u.take k ++ rsl old new 0 (u.drop k)
  | 0, u, _, _ => by simp
  | k + 1, [], h, _ => by simp at h
  | k + 1, c :: u, h, hn => by
    have h0 := hn 0 (Nat.succ_pos _)
    rw [List.drop_zero] at h0
    rw [rsl_no h0, rsl_pass k u (by simpa using h) fun j hj => by
      have := hn (j + 1) (by omega)
      rwa [List.drop_succ_cons] at this]
    rfl
theorem rsl_read {old new p r : List Nat} {c : Nat} (h1 : 1 ≤ old.length) (hp : Pre old p) : rsl old new 0 (p ++ c :: r) = (rds old new p c).2 ++ rsl old new 0 ((rds old new p c).1 ++ r) := by
  have e : p ++ c :: r = p ++ [c] ++ r := by rw [List.append_assoc]; rfl
  rw [e]
  unfold rds
  by_cases z : p ++ [c] = old
  · rw [if_pos z, z]
    have hne : old ≠ [] := fun q => by rw [q] at h1; cases h1
    rw [rsl_yes hne (List.prefix_append _ _), List.drop_left]
    rfl
  · rw [if_neg z]
    have hle := lend_le (p ++ [c]) old
    rw [rsl_pass ((p ++ [c]).length - (lend (p ++ [c]) old).length) (p ++ [c] ++ r) (by rw [List.length_append (as := p ++ [c])]; omega) (no_start hp z)]
    rw [List.take_append_of_le_length (by omega), List.drop_append_of_le_length (by omega)]
    congr 2
    show _ = lend (p ++ [c]) old ++ r
    rw [show (p ++ [c]).drop ((p ++ [c]).length - (lend (p ++ [c]) old).length) = lend (p ++ [c]) old by
      rw [lend_len]; rfl]
/-- pending and put out after a text -/
def run (old new : List Nat) : List Nat → List Nat → List Nat × List Nat
  | p, [] => (p, [])
  | p, c :: r => ((run old new (rds old new p c).1 r).1, (rds old new p c).2 ++ (run old new (rds old new p c).1 r).2)
theorem run_pre {old new : List Nat} (h : 1 ≤ old.length) : ∀ (t p : List Nat), Pre old p → Pre old (run old new p t).1
  | [], p, hp => hp
  | c :: r, p, hp => run_pre h r _ (pre_rds h)
theorem run_rsl {old new : List Nat} (h : 1 ≤ old.length) : ∀ (t p : List Nat), Pre old p → rsl old new 0 (p ++ t) = (run old new p t).2 ++ (run old new p t).1
  | [], p, hp => by rw [List.append_nil, rsl_short hp.2]; rfl
  | c :: r, p, hp => by
    rw [rsl_read h hp, run_rsl h r _ (pre_rds h)]
    show _ = (rds old new p c).2 ++ (run old new (rds old new p c).1 r).2 ++ _
    rw [List.append_assoc]
    rfl
theorem run_app {old new : List Nat} : ∀ (t p : List Nat) (c : Nat), run old new p (t ++ [c]) = ((rds old new (run old new p t).1 c).1, (run old new p t).2 ++ (rds old new (run old new p t).1 c).2)
  | [], p, c => by show ((rds old new p c).1, (rds old new p c).2 ++ []) = ((rds old new p c).1, [] ++ (rds old new p c).2); rw [List.append_nil]; rfl
  | d :: r, p, c => by
    show ((run old new (rds old new p d).1 (r ++ [c])).1, (rds old new p d).2 ++ (run old new (rds old new p d).1 (r ++ [c])).2) = _
    rw [run_app r _ c]
    show (_, (rds old new p d).2 ++ ((run old new (rds old new p d).1 r).2 ++ _)) = (_, (rds old new p d).2 ++ (run old new (rds old new p d).1 r).2 ++ _)
    rw [List.append_assoc]
    rfl
theorem lend_split (t old : List Nat) : t.take (t.length - (lend t old).length) ++ lend t old = t := by
  have h : lend t old = t.drop (t.length - (lend t old).length) := by rw [lend_len]; rfl
  exact (congrArg (fun z => t.take (t.length - (lend t old).length) ++ z) h).trans (List.take_append_drop _ _)
/-- the word looked for: the beginning that is seen, none once the word was there -/
def wat (old : List Nat) : List Nat → List Nat → Option (List Nat)
  | seen, [] => some seen
  | seen, c :: r => if seen ++ [c] = old then none else wat old (lend (seen ++ [c]) old) r
def wato (old : List Nat) : Option (List Nat) → List Nat → Option (List Nat)
  | none, _ => none
  | some s, r => wat old s r
theorem wat_app (old : List Nat) : ∀ (a s b : List Nat), wat old s (a ++ b) = wato old (wat old s a) b
  | [], s, b => rfl
  | c :: a, s, b => by
    show (if s ++ [c] = old then none else wat old (lend (s ++ [c]) old) (a ++ b)) = wato old (if s ++ [c] = old then none else wat old (lend (s ++ [c]) old) a) b
    split
    · rfl
    · exact wat_app old a _ b
theorem wat_pre {old : List Nat} (h : 1 ≤ old.length) : ∀ (r s q : List Nat), Pre old s → wat old s r = some q → Pre old q
  | [], s, q, hs, e => by cases e; exact hs
  | c :: r, s, q, hs, e => by
    have e2 : (if s ++ [c] = old then none else wat old (lend (s ++ [c]) old) r) = some q := e
    split at e2
    · cases e2
    · exact wat_pre h r _ q (pre_lend h _) e2
/-- the word is not there -/
theorem wat_none {old : List Nat} (h : 1 ≤ old.length) : ∀ (r s : List Nat), Pre old s → (wat old s r = none ↔ old <:+: (s ++ r))
  | [], s, hs => by
    rw [List.append_nil]
    constructor
    · intro e; cases e
    · intro e
      have := e.length_le
      have := hs.2
      omega
  | c :: r, s, hs => by
    have e0 : s ++ c :: r = s ++ [c] ++ r := by rw [List.append_assoc]; rfl
    rw [e0]
    show (if s ++ [c] = old then none else wat old (lend (s ++ [c]) old) r) = none ↔ _
    by_cases z : s ++ [c] = old
    · rw [if_pos z, z]
      exact ⟨fun _ => ⟨[], r, by simp⟩, fun _ => rfl⟩
    · rw [if_neg z, wat_none h r _ (pre_lend h _)]
      have hle := lend_le (s ++ [c]) old
      have hk : s ++ [c] ++ r = (s ++ [c]).take ((s ++ [c]).length - (lend (s ++ [c]) old).length) ++ (lend (s ++ [c]) old ++ r) := by
        rw [← List.append_assoc, lend_split]
      constructor
      · intro e
        rw [hk]
        exact e.trans (List.suffix_append _ _).isInfix
      · rintro ⟨a, b, e⟩
        have h1 : old <+: (s ++ [c] ++ r).drop a.length := by
          rw [← e, List.append_assoc, List.drop_left]
          exact List.prefix_append _ _
        have h2 : (s ++ [c]).length - (lend (s ++ [c]) old).length ≤ a.length := by
          rcases Nat.lt_or_ge a.length ((s ++ [c]).length - (lend (s ++ [c]) old).length) with q | q
          · exact absurd h1 (no_start hs z a.length q)
          · exact q
        have hlt : ((s ++ [c]).take ((s ++ [c]).length - (lend (s ++ [c]) old).length)).length = (s ++ [c]).length - (lend (s ++ [c]) old).length := by rw [List.length_take]; omega
        have h3 : (s ++ [c] ++ r).drop a.length = (lend (s ++ [c]) old ++ r).drop (a.length - ((s ++ [c]).length - (lend (s ++ [c]) old).length)) := by
          rw [hk, List.drop_append, hlt, List.drop_eq_nil_of_le (by rw [hlt]; exact h2), List.nil_append]
        rw [h3] at h1
        exact h1.isInfix.trans (List.drop_suffix _ _).isInfix
/-- no word, no change -/
theorem rsl_id {old new : List Nat} : ∀ (u : List Nat), ¬ old <:+: u → rsl old new 0 u = u
  | [], _ => by simp [rsl]
  | c :: u, h => by
    rw [rsl_no (fun z => h z.isInfix), rsl_id u (fun z => h (z.trans (List.suffix_cons c u).isInfix))]
/-- the state of the search for a text whose result has the old word -/
def stR (old new t : List Nat) : List Nat × Option (List Nat) := ((run old new [] t).1, wat old [] (run old new [] t).2)
def gdR (old : List Nat) (s : List Nat × Option (List Nat)) : Prop := wato old s.2 s.1 = none
theorem stR_app (old new t : List Nat) (c : Nat) : stR old new (t ++ [c]) = ((rds old new (stR old new t).1 c).1, wato old (stR old new t).2 (rds old new (stR old new t).1 c).2) := by
  unfold stR
  rw [run_app, wat_app]
theorem gdR_iff {old new : List Nat} (h : 1 ≤ old.length) (t : List Nat) : gdR old (stR old new t) ↔ old <:+: result old new t := by
  unfold gdR stR
  rw [← wat_app, wat_none h _ [] (pre_nil h)]
  have := run_rsl (new := new) h t [] (pre_nil h)
  show old <:+: ([] ++ ((run old new [] t).2 ++ (run old new [] t).1)) ↔ _
  rw [← this]
  exact Iff.rfl
end Sw
/-! part SwH -/
set_option Elab.async false
set_option linter.all false
set_option maxRecDepth 100000
set_option maxHeartbeats 4000000
namespace Sw
open PySem PySem.Spec L2

/-! ## M. dicts whose keys are tuples, nested or not, of texts, ints, bools, None -/
mutual
def drawD : PyData → Nat
  | .none => 1
  | .bool _ => 1
  | .int _ => 1
  | .str _ => 1
  | .tuple xs => drawAll xs + 1
  | .list _ => 0
  | .dict _ => 0
def drawAll : List PyData → Nat
  | [] => 0
  | x :: xs => drawD x + drawAll xs
end
mutual
def keyD : PyData → Bool
  | .none => true
  | .bool _ => true
  | .int _ => true
  | .str _ => true
  | .tuple xs => keyAll xs
  | .list _ => false
  | .dict _ => false
def keyAll : List PyData → Bool
  | [] => true
  | x :: xs => keyD x && keyAll xs
end
theorem hashAll_app (w : World) : ∀ a b : List PyData, hashAll w (a ++ b) = hashAll w a ++ hashAll w b
  | [], b => rfl
  | x :: a, b => by simp only [List.cons_append, hashAll, hashAll_app w a b]
theorem drawAll_app : ∀ a b : List PyData, drawAll (a ++ b) = drawAll a + drawAll b
  | [], b => by simp [drawAll]
  | x :: a, b => by simp only [List.cons_append, drawAll, drawAll_app a b]; omega
section
variable {prog : Program} {w : World} {E : Value → Shared → Prop}
theorem keyAll_mid : ∀ {a b : List PyData} {d : PyData}, keyAll (a ++ d :: b) = true → keyD d = true ∧ keyAll b = true
  | [], b, d, h => by simpa [keyAll] using h
  | x :: a, b, d, h => by
    simp only [List.cons_append, keyAll, Bool.and_eq_true] at h
    exact keyAll_mid h.2
theorem depth_mem : ∀ {xs : List PyData} {d : PyData}, d ∈ xs → d.depth ≤ PyData.depthAll xs
  | x :: xs, d, h => by
    simp only [PyData.depthAll]
    rcases List.mem_cons.mp h with e | h
    · rw [e]; omega
    · have := depth_mem h
      omega
theorem pyHash_none {A : Around} {s : Shared} {Q : Int → Shared → Prop} (h : Q 4238894112 { s with toks := s.toks + 1 }) : wpAny (model prog w) A (pyHash .none) Q E s := by
  have hT : s.TypeIs .none "NoneType" := rfl
  unfold pyHash
  have hv : [Value.none].any Value.onHeap = false := rfl
  refine wpAny_bind ?_
  rw [cRoomFor, if_neg (by rw [hv]; exact Bool.false_ne_true)]
  refine wpAny_pure ?_
  refine wpAny_bind (wpAny_specialOf hT PySem.F.slot_NoneType_hash.lookup ?_)
  show wpAny _ _ (if (some (Value.builtin "NoneType.__hash__") == some Value.none) = true then _ else _) Q E s
  rw [if_neg (by rw [beq_builtin_none]; exact Bool.false_ne_true)]
  refine wpAny_bind (wpAny_specialOf hT PySem.F.slot_NoneType_hash.lookup ?_)
  show wpAny _ _ (callSpecialIfBoundUnlessNone? .none "__hash__" _ >>= _) Q E s
  refine wpAny_bind (wpAny_callSpecialIfBoundUnlessNone?_slot hT PySem.F.slot_NoneType_hash
    (wpAny_call_entry PySem.F.slot_NoneType_hash hT PySem.F.entry_NoneType_hash
      (show wpAny _ _ (do ret (← mkInt 4238894112)) _ _ s from wpAny_ret_mkInt ?_) (PySem.F.args_NoneType_hash_1 _)))
  exact wpAny_pure h
theorem hash_data : ∀ (n : Nat) (d : PyData) (v : Value) (as : List Addr) (A : Around) (s : Shared) (Q : Int → Shared → Prop), d.depth ≤ n → Reads s.heap v d as → keyD d = true → A.units + 4 * n < cLine → Q (hashD w d) { s with toks := s.toks + drawD d } →
    wpAny (model prog w) A (pyHash v) Q E s
  | n, .none, v, as, A, s, Q, hn, r, hk, hu, h => by
    cases r
    exact pyHash_none h
  | n, .bool b, v, as, A, s, Q, hn, r, hk, hu, h => by
    cases r
    exact PpSet.pyHash_bool h
  | n, .int i, v, as, A, s, Q, hn, r, hk, hu, h => by
    cases r
    exact wpAny_pyHash_int h
  | n, .str x, v, as, A, s, Q, hn, r, hk, hu, h => by
    cases r
    exact wpAny_pyHash_str h
  | n, .list xs, v, as, A, s, Q, hn, r, hk, hu, h => by cases hk
  | n, .dict xs, v, as, A, s, Q, hn, r, hk, hu, h => by cases hk
  | 0, .tuple xs, v, as, A, s, Q, hn, r, hk, hu, h => by simp [PyData.depth] at hn
  | n + 1, .tuple xs, v, as, A, s, Q, hn, r, hk, hu, h => by
    cases r with
    | @tuple a o items m _ _ ho hc hd hi =>
    have hT : s.TypeIs (.ref a) "tuple" := ⟨o, ho, hc⟩
    have hu0 : A.units < cLine := by omega
    unfold pyHash
    unfold pyHashByItsType
    refine wpAny_bind (wpAny_cRoomFor_or (.inr hu0) ?_)
    refine wpAny_bind (wpAny_specialOf hT F.slot_tuple_hash.lookup ?_)
    show wpAny _ _ (if (some (Value.builtin "tuple.__hash__") == some Value.none) = true then _ else _) Q E s
    rw [if_neg (by rw [beq_builtin_none]; exact Bool.false_ne_true)]
    refine wpAny_bind (wpAny_specialOf hT F.slot_tuple_hash.lookup ?_)
    show wpAny _ _ (callSpecialIfBoundUnlessNone? (.ref a) "__hash__" _ >>= _) Q E s
    refine wpAny_bind (wpAny_callSpecialIfBoundUnlessNone?_slot hT F.slot_tuple_hash (wpAny_call_entry F.slot_tuple_hash hT F.entry_tuple_hash ?_ (F.args_tuple_hash_1 _)))
    show wpAny _ _ (Builtin.Tuple.tupleItemsOf (.ref a) >>= _) _ _ s
    refine wpAny_bind (wpAny_tupleItemsOf ho hd ?_)
    refine wpAny_bind ?_
    rw [← Array.forIn_toList]
    refine wpAny_forIn_list _
      (fun rest (b : Array Int) s' => ∃ done left bs, xs = done ++ left ∧ ReadsAll s.heap rest left bs ∧ b.toList = hashAll w done ∧ s' = { s with toks := s.toks + drawAll done })
      _ ?_ ?_ _ _ ⟨[], xs, _, rfl, hi, rfl, by simp [drawAll]⟩
    · rintro x rest b s' ⟨done, left, bs, rfl, hl, hb, rfl⟩
      cases hl with
      | @cons _ _ d ds _ _ h1 hl' =>
        have hka : keyD d = true ∧ keyAll ds = true := by
          have hk2 : keyAll (done ++ d :: ds) = true := hk
          exact keyAll_mid hk2
        have hdp : d.depth ≤ n := by
          have := depth_mem (show d ∈ done ++ d :: ds by simp)
          simp only [PyData.depth] at hn
          omega
        refine wpAny_bind (hash_data n d x _ _ _ _ hdp h1 hka.1 ?_ ?_)
        · show A.units + 1 + 4 * n < cLine
          omega
        · refine wpAny_bind (wpAny_pure (wpAny_pure ⟨done ++ [d], ds, _, by simp, hl', ?_, ?_⟩))
          · rw [hashAll_app, Array.toList_push, hb]
            rfl
          · rw [drawAll_app]
            simp [drawAll, Nat.add_assoc]
    · rintro b s' ⟨done, left, bs, rfl, hl, hb, rfl⟩
      cases hl
      rw [List.append_nil] at h
      show wpAny _ _ (retInt (Builtin.Tuple.tupleHashOf b.toList)) _ _ _
      rw [hb]
      refine wpAny_ret_mkInt ?_
      show wpAny _ _ (if (decide (-(2 : Int) ^ 63 ≤ Builtin.Tuple.tupleHashOf (hashAll w done)) && decide (Builtin.Tuple.tupleHashOf (hashAll w done) < 2 ^ 63)) = true then _ else _) Q E _
      simp only [hashD, drawD] at h
      unfold reduceHash at h
      by_cases hr : (decide (-(2 : Int) ^ 63 ≤ Builtin.Tuple.tupleHashOf (hashAll w done)) && decide (Builtin.Tuple.tupleHashOf (hashAll w done) < 2 ^ 63)) = true
      · rw [if_pos hr]
        rw [if_pos hr] at h
        exact wpAny_pure (by simpa [Nat.add_assoc] using h)
      · rw [if_neg hr]
        rw [if_neg hr] at h
        exact wpAny_bind (wpAny_rule (wpAny_pure (by simpa [Nat.add_assoc] using h)))
theorem quiet_data : ∀ (n : Nat) (d : PyData) (v : Value) (as : List Addr) (A : Around) (s : Shared) (Q : Bool → Shared → Prop), d.depth ≤ n → Reads s.heap v d as → keyD d = true → Q true s →
    wpAny (model prog w) A (eqIsQuiet n v) Q E s
  | n, .none, v, as, A, s, Q, hn, r, hk, h => by
    cases r
    rw [eqIsQuiet_byValue _ rfl]; exact wpAny_pure h
  | n, .bool b, v, as, A, s, Q, hn, r, hk, h => by
    cases r
    rw [eqIsQuiet_byValue _ rfl]; exact wpAny_pure h
  | n, .int i, v, as, A, s, Q, hn, r, hk, h => by
    cases r
    rw [eqIsQuiet_byValue _ rfl]; exact wpAny_pure h
  | n, .str x, v, as, A, s, Q, hn, r, hk, h => by
    cases r
    rw [eqIsQuiet_byValue _ rfl]; exact wpAny_pure h
  | n, .list xs, v, as, A, s, Q, hn, r, hk, h => by cases hk
  | n, .dict xs, v, as, A, s, Q, hn, r, hk, h => by cases hk
  | 0, .tuple xs, v, as, A, s, Q, hn, r, hk, h => by simp [PyData.depth] at hn
  | n + 1, .tuple xs, v, as, A, s, Q, hn, r, hk, h => by
    cases r with
    | @tuple a o items m _ _ ho hc hd hi =>
    have hT : s.TypeIs (.ref a) "tuple" := ⟨o, ho, hc⟩
    unfold eqIsQuiet
    refine wpAny_bind (wpAny_specialOf hT F.slot_tuple_eq.lookup ?_)
    show wpAny _ _ (isInstance (.ref a) (.type "tuple") >>= _) _ _ s
    refine wpAny_bind (wpAny_isInstance hT isSubtype_tuple_tuple ?_)
    simp only [Bool.not_true, Bool.false_eq_true, if_false]
    refine wpAny_bind (wpAny_seqItems ho hd ?_)
    refine wpAny_bind ?_
    show wpAny _ _ (forIn items _ _) _ _ s
    rw [← Array.forIn_toList]
    refine wpAny_forIn_list _ (fun rest r s' => r.1 = none ∧ s' = s ∧ ∃ done left bs, xs = done ++ left ∧ ReadsAll s.heap rest left bs) _ ?_ ?_ _ _ ⟨rfl, rfl, [], xs, _, rfl, hi⟩
    · rintro x rest r s' ⟨hr, rfl, done, left, bs, rfl, hl⟩
      cases hl with
      | @cons _ _ d ds _ _ h1 hl' =>
        have hka : keyD d = true ∧ keyAll ds = true := by
          have hk2 : keyAll (done ++ d :: ds) = true := hk
          exact keyAll_mid hk2
        have hdp : d.depth ≤ n := by
          have := depth_mem (show d ∈ done ++ d :: ds by simp)
          simp only [PyData.depth] at hn
          omega
        refine wpAny_bind (quiet_data n d x _ _ _ _ hdp h1 hka.1 ?_)
        simp only [Bool.not_true, Bool.false_eq_true, if_false]
        exact wpAny_pure ⟨rfl, rfl, done ++ [d], ds, _, by simp, hl'⟩
    · rintro ⟨r1, r2⟩ s' ⟨hr, rfl, _⟩
      simp only at hr
      subst hr
      exact wpAny_pure h
mutual
theorem reads_but {h h' : Heap} {d : Addr} {o : Obj} {es : Array DictEntry} {ep : Nat} (ho : h.get? d = some o) (hd : o.data = .dict es ep) (hs : Heap.SameBut d h h') : ∀ (x : PyData) (v : Value) (as : List Addr), keyD x = true → Reads h v x as → Reads h' v x as
  | .none, v, as, hk, r => by cases r; exact .none
  | .bool b, v, as, hk, r => by cases r; exact .bool b
  | .int i, v, as, hk, r => by cases r; exact .int _ _
  | .str x, v, as, hk, r => by cases r; exact .str _ _
  | .list xs, v, as, hk, r => by cases hk
  | .dict xs, v, as, hk, r => by cases hk
  | .tuple xs, v, as, hk, r => by
    cases r with
    | @tuple a o2 items m _ _ ho2 hc hd2 hi =>
    have hne : a ≠ d := fun z => by
      subst z
      rw [ho] at ho2
      cases ho2
      rw [hd] at hd2
      cases hd2
    exact .tuple ((hs.2 a hne).trans ho2) hc hd2 (readsAll_but ho hd hs xs _ _ hk hi)
theorem readsAll_but {h h' : Heap} {d : Addr} {o : Obj} {es : Array DictEntry} {ep : Nat} (ho : h.get? d = some o) (hd : o.data = .dict es ep) (hs : Heap.SameBut d h h') : ∀ (xs : List PyData) (vs : List Value) (as : List Addr), keyAll xs = true → ReadsAll h vs xs as → ReadsAll h' vs xs as
  | [], vs, as, hk, r => by cases r; exact .nil
  | x :: xs, vs, as, hk, r => by
    simp only [keyAll, Bool.and_eq_true] at hk
    cases r with
    | cons h1 h2 => exact .cons (reads_but ho hd hs x _ _ hk.1 h1) (readsAll_but ho hd hs xs _ _ hk.2 h2)
end
/-! keys without bools: equal exactly if the same -/
mutual
theorem keyN_D : ∀ d : PyData, keyN d = true → keyD d = true
  | .none, h => rfl
  | .bool b, h => rfl
  | .int i, h => rfl
  | .str x, h => rfl
  | .tuple xs, h => keyNs_D xs h
  | .list xs, h => by cases h
  | .dict xs, h => by cases h
theorem keyNs_D : ∀ ds : List PyData, keyNs ds = true → keyAll ds = true
  | [], _ => rfl
  | d :: ds, h => by
    simp only [keyNs, Bool.and_eq_true] at h
    simp only [keyAll, Bool.and_eq_true]
    exact ⟨keyN_D d h.1, keyNs_D ds h.2⟩
end
mutual
theorem keyN_lay : ∀ d : PyData, keyN d = true → d.canLay0 = true
  | .none, h => rfl
  | .bool b, h => rfl
  | .int i, h => rfl
  | .str x, h => h
  | .tuple xs, h => keyNs_lay xs h
  | .list xs, h => by cases h
  | .dict xs, h => by cases h
theorem keyNs_lay : ∀ ds : List PyData, keyNs ds = true → PyData.canLayAll0 ds = true
  | [], _ => rfl
  | d :: ds, h => by
    simp only [keyNs, Bool.and_eq_true] at h
    simp only [PyData.canLayAll0, Bool.and_eq_true]
    exact ⟨keyN_lay d h.1, keyNs_lay ds h.2⟩
end
mutual
theorem keyN_eq : ∀ d e : PyData, keyN d = true → keyN e = true → (PyData.eqv d e = true ↔ d = e)
  | .none, e, h, k => by cases e <;> simp [PyData.eqv]
  | .bool b, e, h, k => by cases h
  | .int i, e, h, k => by
    cases e with
    | bool b => cases k
    | int j => simp [PyData.eqv]
    | _ => simp [PyData.eqv]
  | .str x, e, h, k => by cases e <;> simp [PyData.eqv]
  | .list xs, e, h, k => by cases h
  | .dict xs, e, h, k => by cases h
  | .tuple xs, e, h, k => by
    cases e with
    | tuple ys =>
      have := keyNs_eq xs ys h k
      simp only [PyData.eqv, this, PyData.tuple.injEq]
    | _ => simp [PyData.eqv]
theorem keyNs_eq : ∀ ds es : List PyData, keyNs ds = true → keyNs es = true → (PyData.eqvAll ds es = true ↔ ds = es)
  | [], [], h, k => by simp [PyData.eqvAll]
  | [], _ :: _, h, k => by simp [PyData.eqvAll]
  | _ :: _, [], h, k => by simp [PyData.eqvAll]
  | d :: ds, e :: es, h, k => by
    simp only [keyNs, Bool.and_eq_true] at h k
    simp only [PyData.eqvAll, Bool.and_eq_true, keyN_eq d e h.1 k.1, keyNs_eq ds es h.2 k.2, List.cons.injEq]
end
theorem keyT_cases {d : PyData} (h : keyT d = true) : (keyN d = true ∧ ∀ a b i, d ≠ .tuple [a, b, .int i]) ∨ ∃ a b c, d = .tuple [a, b, .bool c] ∧ keyN a = true ∧ keyN b = true := by
  unfold keyT at h
  split at h
  · rw [Bool.and_eq_true] at h
    exact .inr ⟨_, _, _, rfl, h.1, h.2⟩
  · cases h
  · rename_i h1 h2
    exact .inl ⟨h, fun a b i e => h2 a b i e⟩
theorem keyT_D {d : PyData} (h : keyT d = true) : keyD d = true := by
  rcases keyT_cases h with ⟨h, _⟩ | ⟨a, b, c, rfl, h1, h2⟩
  · exact keyN_D d h
  · simp only [keyD, keyAll, keyN_D a h1, keyN_D b h2, Bool.and_self]
theorem keyT_lay {d : PyData} (h : keyT d = true) : d.canLay0 = true := by
  rcases keyT_cases h with ⟨h, _⟩ | ⟨a, b, c, rfl, h1, h2⟩
  · exact keyN_lay d h
  · simp only [PyData.canLay0, PyData.canLayAll0, keyN_lay a h1, keyN_lay b h2, Bool.and_self]
theorem eqvAll_len : ∀ xs ys : List PyData, PyData.eqvAll xs ys = true → xs.length = ys.length
  | [], [], _ => rfl
  | [], y :: ys, h => by simp [PyData.eqvAll] at h
  | x :: xs, [], h => by simp [PyData.eqvAll] at h
  | x :: xs, y :: ys, h => by
    simp only [PyData.eqvAll, Bool.and_eq_true] at h
    rw [List.length_cons, List.length_cons, eqvAll_len xs ys h.2]
theorem eqv_tlen {xs ys : List PyData} (h : xs.length ≠ ys.length) : PyData.eqv (.tuple xs) (.tuple ys) = false := by
  simp only [PyData.eqv]
  exact Bool.eq_false_iff.mpr fun z => h (eqvAll_len xs ys z)
theorem keyT_ne {d a b : PyData} {c : Bool} (h : keyN d = true) (hi : ∀ a b i, d ≠ .tuple [a, b, .int i]) : PyData.eqv d (.tuple [a, b, .bool c]) = false ∧ PyData.eqv (.tuple [a, b, .bool c]) d = false := by
  cases d with
  | tuple xs =>
    match xs, h, hi with
    | [], h, hi => exact ⟨eqv_tlen (by simp), eqv_tlen (by simp)⟩
    | [x], h, hi => exact ⟨eqv_tlen (by simp), eqv_tlen (by simp)⟩
    | [x, y], h, hi => exact ⟨eqv_tlen (by simp), eqv_tlen (by simp)⟩
    | x :: y :: z :: q :: r, h, hi => exact ⟨eqv_tlen (by simp), eqv_tlen (by simp)⟩
    | [x, y, z], h, hi =>
      cases z with
      | int i => exact absurd rfl (hi x y i)
      | bool c' => simp [keyN, keyNs] at h
      | _ => simp [PyData.eqv, PyData.eqvAll]
  | _ => simp [PyData.eqv]
theorem keyT_eq {d e : PyData} (h : keyT d = true) (k : keyT e = true) : PyData.eqv d e = true ↔ d = e := by
  rcases keyT_cases h with ⟨h, hi⟩ | ⟨a, b, c, rfl, h1, h2⟩
  · rcases keyT_cases k with ⟨k, ki⟩ | ⟨a', b', c', rfl, k1, k2⟩
    · exact keyN_eq d e h k
    · rw [(keyT_ne h hi).1]
      refine ⟨fun z => (by cases z), fun z => ?_⟩
      subst z
      simp [keyN, keyNs] at h
  · rcases keyT_cases k with ⟨k, ki⟩ | ⟨a', b', c', rfl, k1, k2⟩
    · rw [(keyT_ne k ki).2]
      refine ⟨fun z => (by cases z), fun z => ?_⟩
      rw [← z] at k
      simp [keyN, keyNs] at k
    · simp only [PyData.eqv, PyData.eqvAll, Bool.and_eq_true, keyN_eq a a' h1 k1, keyN_eq b b' h2 k2, PyData.tuple.injEq, List.cons.injEq, PyData.bool.injEq, and_true, beq_iff_eq, decide_eq_true_eq]
/-- what may be a key -/
noncomputable instance : DecidableEq PyData := fun _ _ => Classical.propDecidable _
noncomputable def nkind (prog : Program) (w : World) : HeapKind prog w PyData where
  is := fun h d a => okK d ∧ ∃ as, Reads h (.ref a) d as
  hash := hashD w
  draws := drawD
  room := fun A => A.units + 40 < cLine
  inj := fun {h a x y} hx hy => by
    obtain ⟨kx, as, rx⟩ := hx
    obtain ⟨ky, bs, ry⟩ := hy
    exact SeqAt.Reads.unique x y _ as bs (keyT_lay kx.1) rx ry
  keeps := fun {h h' k a d o es ep} hx ho hd hs => by
    obtain ⟨kx, as, rx⟩ := hx
    exact ⟨kx, as, reads_but ho hd hs k _ as (keyT_D kx.1) rx⟩
  pyHash := fun {A E s k a Q} hr hx hq => by
    obtain ⟨kx, as, rx⟩ := hx
    exact hash_data 8 k _ as A s Q kx.2 rx (keyT_D kx.1) (by omega) hq
  eqBool := fun {A E s x y a b Q} hr hx hy hq => by
    obtain ⟨kx, as, rx⟩ := hx
    obtain ⟨ky, bs, ry⟩ := hy
    refine SeqAt.eqBoolOverData prog w A E s _ _ x y as bs Q rx ry (keyT_lay kx.1) (keyT_lay ky.1) ?_ ?_
    · have h1 := kx.2
      have h2 : min x.depth y.depth ≤ x.depth := Nat.min_le_left _ _
      omega
    · have e : PyData.eqv x y = decide (x = y) := by
        have := keyT_eq kx.1 ky.1
        by_cases z : x = y
        · rw [decide_eq_true z]; exact this.mpr z
        · rw [decide_eq_false z]
          cases q : PyData.eqv x y with
          | false => rfl
          | true => exact absurd (this.mp q) z
      rw [e]; exact hq
  quiet := fun {A E s k a Q} hx hq => by
    obtain ⟨kx, as, rx⟩ := hx
    exact quiet_data 8 k _ as A s Q kx.2 rx (keyT_D kx.1) hq
end
section
variable {P : Program} {w : World} {H : Hp} {h : Heap} {p : Addr} {xs : List (PyData × Addr × V)}
theorem dic_new {ep : Nat} (D : DicAt w p ep xs h) : ObjOk P w H h p (DicO w p ep xs) := by
  refine ⟨D, ?_, fun h1 h2 D1 k => ?_⟩
  · obtain ⟨_, _, _, ys, _, o, _, ho, _⟩ := D
    exact ⟨o, ho⟩
  · obtain ⟨a, b, c, ys, r, o, es, ho, d⟩ := D1
    exact ⟨a, b, c, ys, r, o, es, k o ho, d⟩
theorem pd_keys {xs : List (PyData × Addr × V)} {ys : List (PyData × Addr × Value)} (r : Paired (fun x y => x.1 = y.1 ∧ x.2.1 = y.2.1 ∧ RelV x.2.2 y.2.2) xs ys) : xs.map (·.1) = ys.map (·.1) := by
  induction r with
  | nil => rfl
  | cons h t ih => rw [List.map_cons, List.map_cons, ih, h.1]
theorem pd_mem {xs : List (PyData × Addr × V)} {ys : List (PyData × Addr × Value)} (r : Paired (fun x y => x.1 = y.1 ∧ x.2.1 = y.2.1 ∧ RelV x.2.2 y.2.2) xs ys) : ∀ y ∈ ys, ∃ x ∈ xs, x.1 = y.1 ∧ x.2.1 = y.2.1 := by
  induction r with
  | nil => intro y hy; cases hy
  | @cons a b as bs h t ih =>
    intro y hy
    rcases List.mem_cons.mp hy with e | hy
    · subst e; exact ⟨a, List.mem_cons_self, h.1, h.2.1⟩
    · obtain ⟨x, hx, e⟩ := ih y hy
      exact ⟨x, List.mem_cons_of_mem _ hx, e⟩
theorem dic_of {ep : Nat} (D : DicAt w p ep xs h) (hk : ∀ x ∈ xs, (nkind P w).is h x.1 x.2.1) : (p == sysModules) = false ∧ xs.length ≤ sizeLine ∧ ∃ ys : List (PyData × Addr × Value), Paired (fun x y => x.1 = y.1 ∧ x.2.1 = y.2.1 ∧ RelV x.2.2 y.2.2) xs ys ∧ h.DictOfH (nkind P w) p ys := by
  obtain ⟨a, b, c, ys, r, o, es, ho, hx, hd, he⟩ := D
  refine ⟨a, b, ys, r, o, es, ep, ho, hx, hd, he, fun y hy => ?_, by rw [← pd_keys r]; exact c⟩
  obtain ⟨x, hx, e1, e2⟩ := pd_mem r y hy
  rw [← e1, ← e2]; exact hk x hx
theorem of_dic {ys : List (PyData × Addr × Value)} (a : (p == sysModules) = false) (b : xs.length ≤ sizeLine) (r : Paired (fun x y => x.1 = y.1 ∧ x.2.1 = y.2.1 ∧ RelV x.2.2 y.2.2) xs ys) (d : h.DictOfH (nkind P w) p ys) : ∃ ep, DicAt w p ep xs h := by
  obtain ⟨o, es, ep, ho, hx, hd, he, _, hn⟩ := d
  exact ⟨ep, a, b, by rw [pd_keys r]; exact hn, ys, r, o, es, ho, hx, hd, he⟩
theorem atKey_mem : ∀ {ys : List (PyData × Addr × Value)} {k : PyData}, (atKey ys k).isSome = true ↔ k ∈ ys.map (·.1)
  | [], k => by simp [atKey]
  | y :: ys, k => by
    have ih := atKey_mem (ys := ys) (k := k)
    by_cases e : y.1 = k
    · simp [atKey, List.find?_cons, e]
    · have : atKey (y :: ys) k = atKey ys k := by simp [atKey, List.find?_cons, e]
      rw [this, ih, List.map_cons, List.mem_cons]
      exact ⟨.inr, fun z => z.elim (fun z => absurd z.symm e) id⟩
end
theorem KeyIn.is {X : Cx} {pins : List (Addr × Obj)} {σ : St} {H : Hp} {s : Shared} {d : PyData} {b : Addr} (I : Inv X pins σ H s) (k : KeyIn X.K H d b) : (nkind X.prog X.w).is s.heap d b := by
  obtain ⟨as, r⟩ := Dp.reads I d (.ref b) (.ref b) k.2 rfl
  exact ⟨k.1, as, r⟩
/-- y in d, y not in d -/
def rInD (K : PySem.W.Frag) (w : World) : R2 := fun y x H Q => ∃ a b ep xs d, x = .ref a ∧ y = .ref b ∧ H a = some (DicO w a ep xs) ∧ KeyIn K H d b ∧ (∀ x ∈ xs, KeyIn K H x.1 x.2.1) ∧ Q (.bl (decide (d ∈ xs.map (·.1)))) H
def rNiD (K : PySem.W.Frag) (w : World) : R2 := fun y x H Q => ∃ a b ep xs d, x = .ref a ∧ y = .ref b ∧ H a = some (DicO w a ep xs) ∧ KeyIn K H d b ∧ (∀ x ∈ xs, KeyIn K H x.1 x.2.1) ∧ Q (.bl (!decide (d ∈ xs.map (·.1)))) H
section
variable {X : Cx}
theorem dic_I {pins : List (Addr × Obj)} {σ : St} {H : Hp} {s : Shared} {a : Addr} {xs : List (PyData × Addr × V)} (I : Inv X pins σ H s) {ep : Nat} (e : H a = some (DicO X.w a ep xs)) (hk : ∀ x ∈ xs, KeyIn X.K H x.1 x.2.1) :
    (a == sysModules) = false ∧ xs.length ≤ sizeLine ∧ ∃ ys : List (PyData × Addr × Value), Paired (fun x y => x.1 = y.1 ∧ x.2.1 = y.2.1 ∧ RelV x.2.2 y.2.2) xs ys ∧ s.heap.DictOfH (nkind X.prog X.w) a ys :=
  dic_of (I.hok a _ e).1 fun x hx => (hk x hx).is I
theorem some_dec {xs : List (PyData × Addr × V)} {ys : List (PyData × Addr × Value)} {d : PyData} (r : Paired (fun x y => x.1 = y.1 ∧ x.2.1 = y.2.1 ∧ RelV x.2.2 y.2.2) xs ys) : (atKey ys d).isSome = decide (d ∈ xs.map (·.1)) := by
  rw [pd_keys r]
  by_cases z : d ∈ ys.map (·.1)
  · rw [decide_eq_true z]; exact atKey_mem.mpr z
  · rw [decide_eq_false z]
    cases q : (atKey ys d).isSome with
    | false => rfl
    | true => exact absurd (atKey_mem.mp q) z
theorem op_niD {k : Nat} (hr : Room k X.A) : OpR X (compareOp .NotIn) (rNiD X.K X.w) := by
  intro pins s σ H x y v u Q I rx ry h
  obtain ⟨a, b, ep, xs, d, rfl, rfl, e, kd, hk, q⟩ := h
  obtain rfl : v = Value.ref b := rx
  obtain rfl : u = Value.ref a := ry
  obtain ⟨h1, h2, ys, r, dd⟩ := dic_I I e hk
  refine PyProof.Rows.wpAny_notIn_heap (knd := nkind X.prog X.w) (k := d) (show X.A.units + 1 + 40 < cLine by have := hr.un; omega) (kd.is I) h1 dd ?_
  rw [some_dec r]
  exact ⟨.bl _, H, I.tok _, rfl, q⟩
theorem op_inD {k : Nat} (hr : Room k X.A) : OpR X (compareOp .In) (rInD X.K X.w) := by
  intro pins s σ H x y v u Q I rx ry h
  obtain ⟨a, b, ep, xs, d, rfl, rfl, e, kd, hk, q⟩ := h
  obtain rfl : v = Value.ref b := rx
  obtain rfl : u = Value.ref a := ry
  obtain ⟨h1, h2, ys, r, dd⟩ := dic_I I e hk
  refine wpAny_in_heap (knd := nkind X.prog X.w) (k := d) (show X.A.units + 1 + 40 < cLine by have := hr.un; omega) (kd.is I) h1 dd ?_
  rw [some_dec r]
  exact ⟨.bl _, H, I.tok _, rfl, q⟩
/-- d[y] = v, the key being new -/
def sNPut (K : PySem.W.Frag) (w : World) (td ty tv : TE) : TS := fun D σ H => tv σ H fun v H1 => td σ H1 fun x H2 => ty σ H2 fun y H3 => ∃ a b ep xs d, x = .ref a ∧ y = .ref b ∧ H3 a = some (DicO w a ep xs) ∧ KeyIn K H3 d b ∧ (∀ x ∈ xs, KeyIn K H3 x.1 x.2.1) ∧
  xs.length < sizeLine ∧ ((d ∉ xs.map (·.1) ∧ ∀ ep2, D.nx σ (upd H3 a (DicO w a ep2 (xs ++ [(d, b, v)])))) ∨ (d ∈ xs.map (·.1) ∧ ∀ ep2, D.nx σ (upd H3 a (DicO w a ep2 (xs.map fun x => if x.1 = d then (x.1, x.2.1, v) else x)))))
theorem ps_nput {k : Nat} (hr : Room k X.A) {o i value : Expr} {pos pos' : Pos} {td ty tv : TE} (ho : PE X o td) (hi : PE X i ty) (hv : PE X value tv) (hs : swapsWith value (some (.Subscript o i pos')) pos.line X.env = pure false) :
    PS X (.Assign [.Subscript o i pos'] value pos) (sNPut X.K X.w td ty tv) := by
  refine ⟨fun pins s σ H D I h => ?_⟩
  refine wpAny_Assign_Subscript (thn (hv.run pins s σ H _ I h) fun r s1 ⟨v, H1, I1, rv, q1⟩ => thn (ho.run pins s1 σ H1 _ I1 q1) fun u s2 ⟨x, H2, I2, rx, q2⟩ => thn (hi.run pins s2 σ H2 _ I2 q2) fun iv s3 ⟨y, H3, I3, ry, a, b, ep0, xs, d, ex, ey, e, kd, hk, hl, q3⟩ => ?_) hs
  subst ex ey
  obtain rfl : u = Value.ref a := rx
  obtain rfl : iv = Value.ref b := ry
  obtain ⟨h1, h2, ys, rel, dd⟩ := dic_I I3 e hk
  have hly : ys.length ≤ sizeLine := by rw [← Paired.length rel]; exact h2
  refine wpAny_setItem_heap (hsz := hly) (knd := nkind X.prog X.w) (k := d) (show X.A.units + 1 + 40 < cLine by have := hr.un; omega) (kd.is I3) dd fun h' dd' sb => ?_
  have he : ∃ q, h'.get? a = some q := let ⟨q, _, _, hq, _⟩ := dd'; ⟨q, hq⟩
  rcases q3 with ⟨hn, q3⟩ | ⟨hn, q3⟩
  · have e1 : storedH ys d b r = ys ++ [(d, b, r)] := storedH_new (by
      cases z : atKey ys d with
      | none => rfl
      | some p =>
        have := some_dec rel (d := d)
        rw [z, decide_eq_false hn] at this
        cases this) b r
    rw [e1] at dd'
    obtain ⟨ep2, da⟩ := of_dic h1 (show (xs ++ [(d, b, v)]).length ≤ sizeLine by rw [List.length_append, List.length_singleton]; omega) (Paired.snoc rel ⟨rfl, rfl, rv⟩) dd'
    exact ⟨σ, _, d_write I3 (by rw [e]; exact True.intro) sb he (dic_new da), q3 ep2⟩
  · have e1 : storedH ys d b r = ys.map (putAt d r) := by
      cases z : atKey ys d with
      | none =>
        have := some_dec rel (d := d)
        rw [z, decide_eq_true hn] at this
        cases this
      | some p => exact storedH_old z b r
    rw [e1] at dd'
    have rel2 : Paired (fun x y => x.1 = y.1 ∧ x.2.1 = y.2.1 ∧ RelV x.2.2 y.2.2) (xs.map fun x => if x.1 = d then (x.1, x.2.1, v) else x) (ys.map (putAt d r)) := ?_
    · obtain ⟨ep2, da⟩ := of_dic h1 (by rw [List.length_map]; exact h2) rel2 dd'
      exact ⟨σ, _, d_write I3 (by rw [e]; exact True.intro) sb he (dic_new da), q3 ep2⟩
    clear dd' e1 q3 hn dd hly he e hk h2 hl
    induction rel with
    | nil => exact .nil
    | @cons p q ps qs g t ih =>
      rw [List.map_cons, List.map_cons]
      refine .cons ?_ ih
      unfold putAt
      by_cases z : p.1 = d
      · rw [if_pos z, if_pos (g.1.symm.trans z)]; exact ⟨g.1, g.2.1, rv⟩
      · rw [if_neg z, if_neg (fun y => z (g.1.trans y))]; exact g
/-- {k: v} -/
def tNDisp (K : PySem.W.Frag) (w : World) (tk tv : TE) : TE := fun σ H Q => ∀ p, H p = none → tk σ (upd H p (DicO w p 0 [])) fun x H1 => tv σ H1 fun v H2 => H2 p = some (DicO w p 0 []) ∧ ∃ b d, x = .ref b ∧ KeyIn K H2 d b ∧ ∀ ep, Q (.ref p) (upd H2 p (DicO w p ep [(d, b, v)]))
theorem dic_empty (h : Heap) (hb : sysModules < h.objs.size) {P : Program} {w : World} {H : Hp} : ObjOk P w H (h.push { cls := .type "dict", data := .dict #[] }) h.objs.size (DicO w h.objs.size 0 []) :=
  dic_new ⟨beq_eq_false_iff_ne.mpr (Ne.symm (Nat.ne_of_lt hb)), Nat.zero_le _, List.nodup_nil, [], .nil, _, #[], Heap.get?_push_size _ rfl, ⟨rfl, rfl, rfl⟩, rfl, rfl⟩
def ndQ (K : PySem.W.Frag) (w : World) (p : Addr) (Q : VK) : List (V × V) → Hp → Prop
  | [(x, v)], H2 => H2 p = some (DicO w p 0 []) ∧ ∃ b d, x = .ref b ∧ KeyIn K H2 d b ∧ ∀ ep, Q (.ref p) (upd H2 p (DicO w p ep [(d, b, v)]))
  | _, _ => False
theorem pe_ndisp {m : Nat} (hr : Room m X.A) {k v : Expr} {pos : Pos} {tk tv : TE} (hk : PE X k tk) (hv : PE X v tv) : PE X (.Dict [some k] [v] pos) (tNDisp X.K X.w tk tv) := by
  refine ⟨fun pins s σ H Q I q => ?_⟩
  have hn := I.hok.fresh (Nat.le_refl s.heap.objs.size)
  have I1 := I.laid (a := s.heap.objs.size) (o := DicO X.w s.heap.objs.size 0 []) (h' := s.heap.push { cls := .type "dict", data := .dict #[] }) (t' := s.toks) (fun _ _ q => Heap.get?_push_of_some _ q) (Nat.le_refl _) (dic_empty s.heap I.big)
  have hpt := (pps_cons hk hv (pps_nil (X := X) (pos := pos))).run pins _ σ _ (ndQ X.K X.w s.heap.objs.size Q) I1 (q _ hn)
  rw [arm_eval_Dict, zip_pairTrees [some k] [v] X.env pos rfl rfl, dictDisplay_pairs _ (by simp [pairTrees]) (by simp [pairTrees])]
  refine wpAny_bind (wpAny_standAt (wpAny_bind (wpAny_subDictH (knd := nkind X.prog X.w) (Q := fun d s' => wpAny (model X.prog X.w) X.A (pure (Value.ref d)) (EP X pins σ Q) X.xe s') (show X.A.units + 40 < cLine by have := hr.un; omega) (by simp [pairTrees])
    (wpAny_mono hpt (fun vs s₁ h₁ => ?_) fun _ _ e => e))))
  obtain ⟨ps, H2, I2, rel, q2⟩ := h₁
  cases rel with
  | nil => exact q2.elim
  | @cons a b as bs h t =>
    cases t with
    | cons _ _ => exact q2.elim
    | nil =>
      obtain ⟨x, v2⟩ := a
      obtain ⟨e, b2, d, ex, kd, q3⟩ := q2
      subst ex
      obtain ⟨b1, bv⟩ := b
      obtain rfl : b1 = Value.ref b2 := h.1
      obtain ⟨h1, h2, ys, rel2, dd⟩ := dic_I I2 e (fun x hx => nomatch hx)
      cases rel2
      refine ⟨[(d, b2, bv)], ⟨rfl, rfl, kd.is I2, trivial⟩, dd, fun h' tk dd' sb => ?_⟩
      have he : ∃ q, h'.get? s.heap.objs.size = some q := let ⟨q, _, _, hq, _⟩ := dd'; ⟨q, hq⟩
      have dd2 : h'.DictOfH (nkind X.prog X.w) s.heap.objs.size [(d, b2, bv)] := dd'
      obtain ⟨ep2, da⟩ := of_dic (xs := [(d, b2, v2)]) h1 (show 1 ≤ sizeLine by decide) (.cons ⟨rfl, rfl, h.2⟩ .nil) dd2
      exact wpAny_pure ⟨.ref s.heap.objs.size, _, d_write I2 (by rw [e]; exact True.intro) sb he (dic_new da), rfl, q3 ep2⟩
end
end Sw
/-! part SwI -/
set_option Elab.async false
set_option linter.all false
set_option maxRecDepth 100000
set_option maxHeartbeats 4000000
namespace Sw
open PySem PySem.Spec L2

/-! ## N. such dicts over data -/
def DicR (w : World) (kvs : List (PyData × PyData)) (K : PySem.W.Frag) (B : Hp) (p : Addr) (o : HO) : Prop :=
  ∃ (ep : Nat) (xs : List (PyData × Addr × V)), o = DicO w p ep xs ∧ Paired (fun kv x => kv.1 = x.1 ∧ okK x.1 ∧ Dd K B (.ref x.2.1) x.1 ∧ Dd K B x.2.2 kv.2) kvs xs
def dcN (w : World) (kvs : List (PyData × PyData)) : SD := .dc (DicR w kvs)
theorem paired_mono {α β : Type} {F G : α → β → Prop} {l : List α} {m : List β} (h : Paired F l m) (f : ∀ a b, F a b → G a b) : Paired G l m := Paired.mapP h f
section
variable {K : PySem.W.Frag} {w : World} {B B' H : Hp} {p : Addr} {o : HO} {kvs : List (PyData × PyData)}
theorem DicR.same (e : Same B B') (h : DicR w kvs K B p o) : DicR w kvs K B' p o := by
  obtain ⟨ep, xs, h1, h2⟩ := h
  exact ⟨ep, xs, h1, paired_mono h2 fun a b z => ⟨z.1, z.2.1, dp_same e _ _ z.2.2.1, dp_same e _ _ z.2.2.2⟩⟩
theorem DicR.ow (h : DicR w kvs K B p o) : OwRel K B p (dcN w kvs) o := fun B' e => h.same e
theorem ow_dic (h : OwRel K B p (dcN w kvs) o) : DicR w kvs K B p o := h B (Same.refl B)
theorem pr_keys {xs : List (PyData × Addr × V)} (h : Paired (fun kv x => kv.1 = x.1 ∧ okK x.1 ∧ Dd K B (.ref x.2.1) x.1 ∧ Dd K B x.2.2 kv.2) kvs xs) : kvs.map (·.1) = xs.map (·.1) := by
  induction h with
  | nil => rfl
  | cons h t ih => rw [List.map_cons, List.map_cons, ih, h.1]
theorem pr_in {xs : List (PyData × Addr × V)} (e : Same B H) (h : Paired (fun kv x => kv.1 = x.1 ∧ okK x.1 ∧ Dd K B (.ref x.2.1) x.1 ∧ Dd K B x.2.2 kv.2) kvs xs) : ∀ x ∈ xs, KeyIn K H x.1 x.2.1 := by
  induction h with
  | nil => intro x hx; cases hx
  | @cons a b as bs h t ih =>
    intro x hx
    rcases List.mem_cons.mp hx with z | z
    · subst z; exact ⟨h.2.1, dp_same e _ _ h.2.2.1 |> dd_dp _ _ (keyT_lay h.2.1.1)⟩
    · exact ih x z
theorem dd_ref {v : V} {ds : List PyData} (h : Dd K B v (.tuple ds)) : ∃ b, v = .ref b := by
  cases h with
  | tup _ _ => exact ⟨_, rfl⟩
theorem key_in {b : Addr} {d : PyData} (e : Same B H) (hk : okK d) (h : Dd K B (.ref b) d) : KeyIn K H d b := ⟨hk, dd_dp _ _ (keyT_lay hk.1) (dp_same e _ _ h)⟩
theorem ev_ndisp {τ : Tau} {tk tv : TE} {ds : List PyData} {e : PyData} (h1 : EvS K tk τ (.tuple ds)) (h2 : EvS K tv τ e) (hk : okK (.tuple ds)) : EvX K (tNDisp K w tk tv) τ (dcN w [(.tuple ds, e)]) := fun σ B H hs eq Q q p hp => by
  have s0 : Step B H B (upd H p (DicO w p 0 [])) := Step.own eq hp
  refine h1 σ B _ hs s0.i _ fun v B1 H1 s1 d1 => h2 σ B1 H1 (hs.same s1.b) s1.i _ fun u B2 H2 s2 d2 => ?_
  obtain ⟨b, rfl⟩ := dd_ref d1
  have s12 := s1.trans s2
  have hp2 : H2 p = some (DicO w p 0 []) := s12.h p _ upd_same
  have hB : B2 p = none := s12.f p (by rw [upd_same]; exact fun z => nomatch z) (Same.free eq hp)
  refine ⟨hp2, b, _, rfl, key_in s2.i hk (dp_same s2.b _ _ d1), fun ep => ?_⟩
  have st : Step B H B2 (upd H2 p (DicO w p ep [(.tuple ds, b, u)])) := ⟨s12.b, fun a o h => by
      have hne : a ≠ p := ne_of_none h hp
      rw [upd_ne hne]
      exact s12.h a o (by rw [upd_ne hne]; exact h), fun a o h => by
      have hne : a ≠ p := ne_of_none h hB
      rw [upd_ne hne]
      exact s12.i a o h, fun a ha hb => by
      have hne : a ≠ p := fun z => ha (by rw [z]; exact hp)
      exact s12.f a (by rw [upd_ne hne]; exact ha) hb⟩
  exact q _ B2 _ st ⟨p, _, rfl, hp, upd_same, hB, DicR.ow ⟨ep, _, rfl, .cons ⟨rfl, hk, dp_same s2.b _ _ d1, d2⟩ .nil⟩⟩
variable {τ : List SD} {E : DEnds} {te tv : TE} {t1 t2 : TS} {i : Nat} {ds : List PyData} {e : PyData} {b : Bool}
theorem StB.dic {B0 H0 : Hp} {σ : St} (S : StB K B0 H0 B τ σ H) (hi : τ[i]? = some (dcN w kvs)) : ∃ p ep xs, σ[i]? = some (some (.ref p)) ∧ H p = some (DicO w p ep xs) ∧ Paired (fun kv x => kv.1 = x.1 ∧ okK x.1 ∧ Dd K B (.ref x.2.1) x.1 ∧ Dd K B x.2.2 kv.2) kvs xs := by
  rcases S.sl i _ hi with z | ⟨v, h1, p, o, rfl, n, h3, n2, h4⟩
  · cases z
  · obtain ⟨ep, xs, rfl, r⟩ := ow_dic h4
    exact ⟨p, ep, xs, h1, h3, r⟩
/-- if k not in d -/
theorem ws_ifNi (hi : τ[i]? = some (dcN w kvs)) (h : EvS K te (dv τ) (.tuple ds)) (hk : okK (.tuple ds)) (h1 : PyData.tuple ds ∉ kvs.map (·.1) → WS K t1 τ E) (h2 : PyData.tuple ds ∈ kvs.map (·.1) → WS K t2 τ E) :
    WS K (tIfS (tTest (tOp (rNiD K w) te (tVar i))) t1 t2) τ E := fun B0 H0 D σ H ⟨B, S⟩ A => by
    show te σ H _
    refine S.ev h fun v B' H' S' _ d1 => ?_
    obtain ⟨b, rfl⟩ := dd_ref d1
    obtain ⟨p, ep, xs, e1, e2, r⟩ := S'.dic hi
    refine ⟨_, e1, p, b, ep, xs, _, rfl, rfl, e2, key_in S'.st.i hk d1, pr_in S'.st.i r, _, rfl, ?_⟩
    rw [← pr_keys r]
    by_cases z : PyData.tuple ds ∈ kvs.map (·.1)
    · rw [decide_eq_true z]
      exact h2 z B0 H0 D σ H' ⟨B', S'⟩ A
    · rw [decide_eq_false z]
      exact h1 z B0 H0 D σ H' ⟨B', S'⟩ A
/-- d[k] = v, a new key -/
theorem ws_nput (hi : τ[i]? = some (dcN w kvs)) (h : EvS K te (dv τ) (.tuple ds)) (hk : okK (.tuple ds)) (hv : EvS K tv (dv τ) e) (hn : PyData.tuple ds ∉ kvs.map (·.1)) (hl : kvs.length < sizeLine) (k : E.nx (τ.set i (dcN w (kvs ++ [(.tuple ds, e)])))) :
    WS K (sNPut K w (tVar i) te tv) τ E := fun B0 H0 D σ H ⟨B, S⟩ A => by
    show tv σ H _
    refine S.ev hv fun v B1 H1 S1 _ d1 => ?_
    obtain ⟨p, ep0, xs0, e1, _, _⟩ := S1.dic hi
    refine ⟨_, e1, h σ B1 H1 S1.slD S1.st.i _ fun y B2 H2 st d2 => ?_⟩
    have S2 := S1.step st
    obtain ⟨b, rfl⟩ := dd_ref d2
    obtain ⟨p2, ep, xs, e2, e3, r⟩ := S2.dic hi
    rw [e1] at e2
    cases e2
    have hlx : xs.length = kvs.length := (Paired.length r).symm
    refine ⟨p, b, ep, xs, _, rfl, rfl, e3, key_in S2.st.i hk d2, pr_in S2.st.i r, by rw [hlx]; exact hl, .inl ⟨by rw [← pr_keys r]; exact hn, fun ep2 => ?_⟩⟩
    exact A.nx _ _ _ k ⟨B2, S2.mut hi rfl e1 rfl (DicR.ow ⟨ep2, _, rfl, Paired.snoc r ⟨rfl, hk, d2, dp_same st.b _ _ d1⟩⟩)⟩
end
end Sw
/-! part P2 -/
set_option Elab.async false
set_option linter.all false
set_option maxRecDepth 100000
set_option maxHeartbeats 4000000
namespace Sw
open PySem PySem.Spec L2
local macro_rules | `(tactic| walk_at "sz") => `(tactic| first | assumption | omega | (have hsz := szl; omega) | (have hsz := szl; simp only [List.length_append, List.length_cons, List.length_nil, List.length_take, List.length_drop, List.length_reverse, List.length_map, List.length_range]; omega) | decide)
local macro_rules | `(tactic| walk_at "evF") => `(tactic| fail)
local macro_rules | `(tactic| walk_at "ev1") => `(tactic| first
  | ((with_reducible apply ev_var); exact rfl) | with_reducible exact ev_int | with_reducible exact ev_none | with_reducible exact ev_bool | with_reducible exact ev_str
  | with_reducible exact ea_nil | with_reducible apply ea_cons | with_reducible exact eo_none | with_reducible apply eo_some
  | with_reducible exact et_yes | with_reducible apply et_B | with_reducible apply et_test | with_reducible apply et_not | with_reducible apply et_and | with_reducible apply et_or
  | (refine fun (_ : (_ : Bool) = true) => ?_) | (refine fun (_ : (_ : Bool) = false) => ?_)
  | walk_at "evF"
  | with_reducible apply ev_isi | with_reducible apply ev_op | with_reducible apply ev_cb | with_reducible apply ev_sl | with_reducible apply ev_un | with_reducible apply ev_notV
  | with_reducible apply ev_tup | with_reducible apply ev_lst | ((with_reducible apply EvX.frz); with_reducible apply ev_lst)
  | with_reducible apply ev_revL | with_reducible apply ev_revT | with_reducible apply ev_chain
  | with_reducible exact od_add_int | with_reducible exact od_sub | with_reducible exact od_lt | with_reducible exact od_le | with_reducible exact od_gt | with_reducible exact od_ge | with_reducible exact od_eq_int | with_reducible exact od_ne_int
  | with_reducible exact od_eqT | with_reducible exact od_neT | with_reducible exact od_ltT | with_reducible exact od_eq_bool | with_reducible exact od_ne_bool | with_reducible exact od_isN | with_reducible exact od_ntN | with_reducible exact od_isB | with_reducible exact od_ntB
  | with_reducible refine od_addT ?_ | ((with_reducible apply od_ix_tup); exact rfl) | ((with_reducible apply od_ix_list); exact rfl)
  | with_reducible exact cd_lenL | with_reducible exact cd_lenU | with_reducible exact cd_lenS | with_reducible refine cd_lenT ?_ | with_reducible refine cd_lenZ ?_ | with_reducible exact cd_max2 | with_reducible exact cd_min2 | with_reducible exact cd_all | with_reducible exact cd_any
  | refine sd_Tn rfl (Int.natCast_add _ _).symm ?_ | refine sd_Tn rfl rfl ?_ | refine sd_TLn rfl ?_ | refine sd_TRn rfl ?_
  | with_reducible refine od_mulT ?_ ?_ ?_ | with_reducible refine OpD.frz (od_mul_list ?_ ?_ ?_)
  | (intro z h; cases h; done) | walk_at "sz")
local macro_rules | `(tactic| walk_at "ev") => `(tactic| repeat' walk_at "ev1")
/-! ## reading sign by sign; remaining.py -/
def optT : Option (List Nat) → PyData
  | none => .none
  | some l => T l
def F_longest_end (ds : List PyData) (sd : SD) : Prop := ∃ text word, ds = [T text, T word] ∧ Fit text ∧ Fit word ∧ 1 ≤ word.length ∧ sd = .dt (T (lend text word))
def F_read_sign (ds : List PyData) (sd : SD) : Prop := ∃ old new p c, ds = [rep old new, T p, T [c]] ∧ Rp old new ∧ p.length ≤ 1000 ∧ sd = .dt (.tuple [T (rds old new p c).1, T (rds old new p c).2])
def F_watch (ds : List PyData) (sd : SD) : Prop := ∃ old seen text, ds = [T old, T seen, T text] ∧ 1 ≤ old.length ∧ old.length ≤ 1000 ∧ seen.length ≤ 1000 ∧ Fit text ∧ sd = .dt (optT (wat old seen text))
def F_find_remaining (ds : List PyData) (sd : SD) : Prop := ∃ old new o, ds = [rep old new] ∧ Rp old new ∧ IsFirst (fun t => gdR old (stR old new t)) o ∧ sd = .dt (optT o)
theorem len_longest_end : ∀ ds sd, F_longest_end ds sd → ds.length = 2 := by rintro _ _ ⟨_, _, rfl, _⟩; rfl
theorem len_read_sign : ∀ ds sd, F_read_sign ds sd → ds.length = 3 := by rintro _ _ ⟨_, _, _, _, rfl, _⟩; rfl
theorem len_watch : ∀ ds sd, F_watch ds sd → ds.length = 3 := by rintro _ _ ⟨_, _, _, rfl, _⟩; rfl
theorem len_find_remaining : ∀ ds sd, F_find_remaining ds sd → ds.length = 1 := by rintro _ _ ⟨_, _, _, rfl, _⟩; rfl
def t_longest_end (K : PySem.W.Frag) (W : WX) : TS :=
  (tSeq (tAsg (tCB rMin2U (tCons (tCB (rLenU K) (tCons (tVar 0) tNil)) (tCons (tOp rSubU (tCB (rLenU K) (tCons (tVar 1) tNil)) (tC (.int 1))) tNil))) (gName 2))
    (tSeq (tWhile (tTest (tOp (rNeU K) (tSl (rSlU K) (tVar 0) (tPart (tOp rSubU (tCB (rLenU K) (tCons (tVar 0) tNil)) (tVar 2))) tNoPart) (tSl (rSlU K) (tVar 1) tNoPart (tPart (tVar 2))))) (tAsg (tOp rSubU (tVar 2) (tC (.int 1))) (gName 2)))
    (tRet (tSl (rSlU K) (tVar 0) (tPart (tOp rSubU (tCB (rLenU K) (tCons (tVar 0) tNil)) (tVar 2))) tNoPart))))
def t_read_sign (K : PySem.W.Frag) (W : WX) : TS :=
  (tSeq (tAsg (tVar 0) (gTup K 2 (gCons (gName 3) (gCons (gName 4) gNil))))
    (tSeq (tAsg (tOp (rAddU K) (tVar 1) (tVar 2)) (gName 5))
    (tSeq (tIfS (tTest (tOp (rEqU K) (tVar 5) (tVar 3))) (tRet (tTup (tCons (tC (.str (tx []))) (tCons (tVar 4) tNil)))) tNext)
    (tSeq (tAsg (tCallS (spD K F_longest_end) (WE W) (tCons (tVar 5) (tCons (tVar 3) tNil))) (gName 6))
    (tRet (tTup (tCons (tVar 6) (tCons (tSl (rSlU K) (tVar 5) tNoPart (tPart (tOp rSubU (tCB (rLenU K) (tCons (tVar 5) tNil)) (tCB (rLenU K) (tCons (tVar 6) tNil))))) tNil))))))))
def t_watch (K : PySem.W.Frag) (W : WX) : TS :=
  (tSeq (tFor (iStr (tVar 2)) (gName 3) (tSeq (tIfS (tTest (tOp (rEqU K) (tOp (rAddU K) (tVar 1) (tVar 3)) (tVar 0))) (tRet (tC .non)) tNext)
    (tAsg (tCallS (spD K F_longest_end) (WE W) (tCons (tOp (rAddU K) (tVar 1) (tVar 3)) (tCons (tVar 0) tNil))) (gName 1))))
    (tRet (tVar 1)))
def t_find_remaining (K : PySem.W.Frag) (W : WX) (w : World) : TS :=
  (tSeq (tPar3 1 2 3 (tCons (tOp (rIx K) (tVar 0) (tC (.int 0))) (tCons (tLst (tCons (tTup (tCons (tC (.str (tx []))) (tCons (tC (.str (tx []))) (tCons (tC (.str (tx []))) tNil)))) tNil)) (tCons (tNDisp K w (tTup (tCons (tC (.str (tx []))) (tCons (tC (.str (tx []))) tNil))) (tC (.bl true))) tNil))))
    (tSeq (tWhile (tTest (tOp (rNeU K) (tVar 2) (tLst tNil))) (tSeq (tAsg (tLst tNil) (gName 4))
    (tSeq (tFor (iList K (tVar 2)) (gTup K 3 (gCons (gName 5) (gCons (gName 6) (gCons (gName 7) gNil)))) (tSeq (tIfS (tOr (tTest (tOp rIsU (tVar 7) (tC .non))) (tTest (tOp rIsU (tCallS (spD K F_watch) (WE W) (tCons (tVar 1) (tCons (tVar 7) (tCons (tVar 6) tNil)))) (tC .non)))) (tRet (tVar 5)) tNext)
    (tFor (iStr (tC (.str (tx [97, 98, 99])))) (gName 8) (tSeq (tAsg (tCallS (spD K F_read_sign) (WE W) (tCons (tVar 0) (tCons (tVar 6) (tCons (tVar 8) tNil)))) (gTup K 2 (gCons (gName 9) (gCons (gName 10) gNil))))
    (tSeq (tAsg (tCallS (spD K F_watch) (WE W) (tCons (tVar 1) (tCons (tVar 7) (tCons (tVar 10) tNil)))) (gName 11))
    (tIfS (tTest (tOp (rNiD K w) (tTup (tCons (tVar 9) (tCons (tVar 11) tNil))) (tVar 3))) (tSeq (sNPut K w (tVar 3) (tTup (tCons (tVar 9) (tCons (tVar 11) tNil))) (tC (.bl true)))
    (tDrop (tBM K "list" rAppend (tVar 4) (tCons (tTup (tCons (tOp (rAddU K) (tVar 5) (tVar 8)) (tCons (tVar 9) (tCons (tVar 11) tNil)))) tNil)))) tNext))))))
    (tAsg (tVar 4) (gName 2)))))
    (tRet (tC .non))))
section
variable {K : PySem.W.Frag} {W : WX} {w : World} {ds : List PyData} {sd : SD} {τ : Tau} {ta tb tc : TE} {E : St → XK}
theorem ws_longest_end (h : F_longest_end ds sd) : WS K (t_longest_end K W) (startD 3 ds) (retE W sd) := by
  obtain ⟨text, word, rfl, hf, hg, hw, rfl⟩ := h
  show WS K (t_longest_end K W) [.dt (T text), .dt (T word), .no] _
  unfold t_longest_end
  refine ws_seq (ws_set (sd := .dt (.int ((min text.length (word.length - 1) : Nat) : Int))) (ev_is (ev_cb (ea_cons (ev_cb (ea_cons (ev_var rfl) ea_nil) (cd_lenT (by walk_at "sz"))) (ea_cons (ev_op (ev_cb (ea_cons (ev_var rfl) ea_nil) (cd_lenT (by walk_at "sz"))) ev_int od_sub) ea_nil)) cd_min2) (by congr 1; split <;> omega)) ?_)
  refine ws_seq (ws_while (fun m τ => ∃ s : Nat, τ = [.dt (T text), .dt (T word), .dt (.int (s : Int))] ∧ s ≤ text.length ∧ lsz text word s = lsz text word (min text.length (word.length - 1)) ∧ m = s) (min text.length (word.length - 1)) ⟨_, rfl, Nat.min_le_left _ _, rfl, rfl⟩ ?_)
  rintro m τ ⟨s, rfl, hs, he, rfl⟩
  refine ⟨!decide (text.drop (text.length - m) = word.take m), ?_, fun hb => ?_, fun hb => ?_⟩
  · exact et_test (ev_op (ev_sl (ev_var rfl) (eo_some (ev_op (ev_cb (ea_cons (ev_var rfl) ea_nil) (cd_lenT (by walk_at "sz"))) (ev_var rfl) od_sub)) eo_none (sd_TLn (a := text.length - m) (by omega) (by walk_at "sz"))) (ev_sl (ev_var rfl) eo_none (eo_some (ev_var rfl)) (sd_TRn (a := m) rfl (by walk_at "sz"))) od_neT)
  · have hne : ¬ text.drop (text.length - m) = word.take m := by simpa using hb
    cases m with
    | zero => exact absurd (by simp) hne
    | succ n =>
      refine ws_set (sd := .dt (.int (n : Int))) (ev_is (ev_op (ev_var rfl) ev_int od_sub) (by congr 1; omega)) ⟨n, by omega, n, rfl, by omega, ?_, rfl⟩
      rw [← he]
      show lsz text word n = if text.drop (text.length - (n + 1)) = word.take (n + 1) then n + 1 else lsz text word n
      rw [if_neg hne]
  · have heq : text.drop (text.length - m) = word.take m := by simpa using hb
    have hm : m = lsz text word (min text.length (word.length - 1)) := by
      rw [← he]
      cases m with
      | zero => rfl
      | succ n =>
        show n + 1 = if text.drop (text.length - (n + 1)) = word.take (n + 1) then n + 1 else lsz text word n
        rw [if_pos heq]
    refine ws_ret (ev_sl (ev_var rfl) (eo_some (ev_op (ev_cb (ea_cons (ev_var rfl) ea_nil) (cd_lenT (by walk_at "sz"))) (ev_var rfl) od_sub)) eo_none (sd_TLn (a := text.length - m) (by omega) (by walk_at "sz"))) ?_
    show SD.dt (T (text.drop (text.length - m))) = SD.dt (T (lend text word))
    unfold lend
    rw [← hm]
theorem e_longest_end {text word : List Nat} (ha : EvS K ta τ (T text)) (hb : EvS K tb τ (T word)) (h1 : Fit text) (h2 : Fit word) (h3 : 1 ≤ word.length) : EvX K (tCallS (spD K F_longest_end) E (tCons ta (tCons tb tNil))) τ (.dt (T (lend text word))) :=
  ev_call (ea_cons ha (ea_cons hb ea_nil)) ⟨text, word, rfl, h1, h2, h3, rfl⟩
theorem ws_read_sign (h : F_read_sign ds sd) : WS K (t_read_sign K W) (startD 7 ds) (retE W sd) := by
  obtain ⟨old, new, p, c, rfl, hr, hp, rfl⟩ := h
  have ho1 := hr.o1
  have ho4 := hr.o4
  show WS K (t_read_sign K W) [.dt (rep old new), .dt (T p), .dt (T [c]), .no, .no, .no, .no] _
  unfold t_read_sign
  refine ws_seq (ws_asg (ev_var rfl) (tg_tup (tgs_cons tg_name (tgs_cons tg_name tgs_nil)) rfl) ?_)
  refine ws_seq (ws_set (sd := .dt (T (p ++ [c]))) (ev_op (ev_var rfl) (ev_var rfl) (od_addT (by walk_at "sz"))) ?_)
  have hlp : (p ++ [c]).length ≤ 1001 := by rw [List.length_append, List.length_singleton]; omega
  refine ws_seq (ws_if (b := decide (p ++ [c] = old)) (et_test (ev_op (ev_var rfl) (ev_var rfl) od_eqT)) (fun hb => ?_) (fun hb => ws_next ?_))
  · have hb : p ++ [c] = old := of_decide_eq_true hb
    refine ws_ret (ev_tup (ea_cons ev_str (ea_cons (ev_var rfl) ea_nil)) (by show 2 ≤ sizeLine; decide)) ?_
    show _ = SD.dt (.tuple [T (rds old new p c).1, T (rds old new p c).2])
    unfold rds
    rw [if_pos hb]
  · have hb : ¬ p ++ [c] = old := of_decide_eq_false hb
    have hle := lend_le (p ++ [c]) old
    refine ws_seq (ws_set (e_longest_end (ev_var rfl) (ev_var rfl) (by unfold Fit; omega) (by unfold Fit; omega) ho1) ?_)
    refine ws_ret (ev_tup (ea_cons (ev_var rfl) (ea_cons (ev_sl (ev_var rfl) eo_none (eo_some (ev_op (ev_cb (ea_cons (ev_var rfl) ea_nil) (cd_lenT (by walk_at "sz"))) (ev_cb (ea_cons (ev_var rfl) ea_nil) (cd_lenT (by walk_at "sz"))) od_sub)) (sd_TRn (a := (p ++ [c]).length - (lend (p ++ [c]) old).length) (by omega) (by walk_at "sz"))) ea_nil)) (by show 2 ≤ sizeLine; decide)) ?_
    show _ = SD.dt (.tuple [T (rds old new p c).1, T (rds old new p c).2])
    unfold rds
    rw [if_neg hb]
theorem e_read_sign {old new p : List Nat} {c : Nat} (ha : EvS K ta τ (rep old new)) (hb : EvS K tb τ (T p)) (hc : EvS K tc τ (T [c])) (h : Rp old new) (hp : p.length ≤ 1000) : EvX K (tCallS (spD K F_read_sign) E (tCons ta (tCons tb (tCons tc tNil)))) τ (.dt (.tuple [T (rds old new p c).1, T (rds old new p c).2])) :=
  ev_call (ea_cons ha (ea_cons hb (ea_cons hc ea_nil))) ⟨old, new, p, c, rfl, h, hp, rfl⟩
theorem signs_get {l : List Nat} {i : Nat} {x : PyData} (h : (signs (tx l))[i]? = some x) : ∃ c, l[i]? = some c ∧ x = T [c] := by
  unfold signs at h
  rw [tx_list, List.getElem?_map] at h
  cases e : l[i]? with
  | none => rw [e] at h; cases h
  | some c => rw [e] at h; exact ⟨c, rfl, (Option.some.inj h).symm⟩
theorem signs_len (l : List Nat) : (signs (tx l)).length = l.length := by unfold signs; rw [tx_list, List.length_map]
theorem drop_get {l : List Nat} {i c : Nat} (h : l[i]? = some c) : l.drop i = c :: l.drop (i + 1) := by
  obtain ⟨hl, e⟩ := List.getElem?_eq_some_iff.mp h
  rw [List.drop_eq_getElem_cons hl, e]
theorem ws_watch (h : F_watch ds sd) : WS K (t_watch K W) (startD 4 ds) (retE W sd) := by
  obtain ⟨old, seen, text, rfl, h1, h2, h3, h4, rfl⟩ := h
  show WS K (t_watch K W) [.dt (T old), .dt (T seen), .dt (T text), .no] _
  unfold t_watch
  refine ws_seq (ws_forN (in_str (ev_var rfl)) (fun i τ => ∃ s x, τ = [.dt (T old), .dt (T s), .dt (T text), x] ∧ s.length ≤ 1000 ∧ wat old s (text.drop i) = wat old seen text) ⟨seen, .no, rfl, h3, by rw [List.drop_zero]⟩ ?_ ?_)
  · rintro i x τ hx ⟨s, y, rfl, hs, he⟩
    obtain ⟨c, hc, rfl⟩ := signs_get hx
    rw [drop_get hc] at he
    have he : (if s ++ [c] = old then none else wat old (lend (s ++ [c]) old) (text.drop (i + 1))) = wat old seen text := he
    have hls : (s ++ [c]).length ≤ 1001 := by rw [List.length_append, List.length_singleton]; omega
    refine ⟨_, tg_name, ?_⟩
    refine ws_seq (ws_if (b := decide (s ++ [c] = old)) (et_test (ev_op (ev_op (ev_var rfl) (ev_var rfl) (od_addT (by walk_at "sz"))) (ev_var rfl) od_eqT)) (fun hb => ?_) (fun hb => ws_next ?_))
    · rw [if_pos (of_decide_eq_true hb)] at he
      refine ws_ret ev_none ?_
      show SD.dt .none = SD.dt (optT (wat old seen text))
      rw [← he]
      rfl
    · rw [if_neg (of_decide_eq_false hb)] at he
      have hlt := lend_lt (text := s ++ [c]) h1
      exact ws_set (e_longest_end (ev_op (ev_var rfl) (ev_var rfl) (od_addT (by walk_at "sz"))) (ev_var rfl) (by unfold Fit; omega) (by unfold Fit; omega) h1) ⟨lend (s ++ [c]) old, .dt (T [c]), rfl, by omega, he⟩
  · rintro τ ⟨s, y, rfl, hs, he⟩
    rw [signs_len, List.drop_length] at he
    refine ws_ret (ev_var rfl) ?_
    show SD.dt (T s) = SD.dt (optT (wat old seen text))
    rw [← he]
    rfl
theorem e_watch {old seen text : List Nat} (ha : EvS K ta τ (T old)) (hb : EvS K tb τ (T seen)) (hc : EvS K tc τ (T text)) (h1 : 1 ≤ old.length) (h2 : old.length ≤ 1000) (h3 : seen.length ≤ 1000) (h4 : Fit text) : EvX K (tCallS (spD K F_watch) E (tCons ta (tCons tb (tCons tc tNil)))) τ (.dt (optT (wat old seen text))) :=
  ev_call (ea_cons ha (ea_cons hb (ea_cons hc ea_nil))) ⟨old, seen, text, rfl, h1, h2, h3, h4, rfl⟩
end
end Sw
/-! part P3 -/
set_option Elab.async false
set_option linter.all false
set_option maxRecDepth 100000
set_option maxHeartbeats 4000000
namespace Sw
open PySem PySem.Spec L2
local macro_rules | `(tactic| walk_at "sz") => `(tactic| first | assumption | omega | (have hsz := szl; omega) | (have hsz := szl; simp only [List.length_append, List.length_cons, List.length_nil, List.length_take, List.length_drop, List.length_reverse, List.length_map, List.length_range]; omega) | decide)
local macro_rules | `(tactic| walk_at "evF") => `(tactic| fail)
local macro_rules | `(tactic| walk_at "ev1") => `(tactic| first
  | ((with_reducible apply ev_var); exact rfl) | with_reducible exact ev_int | with_reducible exact ev_none | with_reducible exact ev_bool | with_reducible exact ev_str
  | with_reducible exact ea_nil | with_reducible apply ea_cons | with_reducible exact eo_none | with_reducible apply eo_some
  | with_reducible exact et_yes | with_reducible apply et_B | with_reducible apply et_test | with_reducible apply et_not | with_reducible apply et_and | with_reducible apply et_or
  | (refine fun (_ : (_ : Bool) = true) => ?_) | (refine fun (_ : (_ : Bool) = false) => ?_)
  | walk_at "evF"
  | with_reducible apply ev_isi | with_reducible apply ev_op | with_reducible apply ev_cb | with_reducible apply ev_sl | with_reducible apply ev_un | with_reducible apply ev_notV
  | with_reducible apply ev_tup | with_reducible apply ev_lst | ((with_reducible apply EvX.frz); with_reducible apply ev_lst)
  | with_reducible apply ev_revL | with_reducible apply ev_revT | with_reducible apply ev_chain
  | with_reducible exact od_add_int | with_reducible exact od_sub | with_reducible exact od_lt | with_reducible exact od_le | with_reducible exact od_gt | with_reducible exact od_ge | with_reducible exact od_eq_int | with_reducible exact od_ne_int
  | with_reducible exact od_eqT | with_reducible exact od_neT | with_reducible exact od_ltT | with_reducible exact od_eq_bool | with_reducible exact od_ne_bool | with_reducible exact od_isN | with_reducible exact od_ntN | with_reducible exact od_isB | with_reducible exact od_ntB
  | with_reducible refine od_addT ?_ | ((with_reducible apply od_ix_tup); exact rfl) | ((with_reducible apply od_ix_list); exact rfl)
  | with_reducible exact cd_lenL | with_reducible exact cd_lenU | with_reducible exact cd_lenS | with_reducible refine cd_lenT ?_ | with_reducible refine cd_lenZ ?_ | with_reducible exact cd_max2 | with_reducible exact cd_min2 | with_reducible exact cd_all | with_reducible exact cd_any
  | refine sd_Tn rfl (Int.natCast_add _ _).symm ?_ | refine sd_Tn rfl rfl ?_ | refine sd_TLn rfl ?_ | refine sd_TRn rfl ?_
  | with_reducible refine od_mulT ?_ ?_ ?_ | with_reducible refine OpD.frz (od_mul_list ?_ ?_ ?_)
  | (intro z h; cases h; done) | walk_at "sz")
local macro_rules | `(tactic| walk_at "ev") => `(tactic| repeat' walk_at "ev1")
/-! ## find_remaining -/
theorem strOk_abc {l : List Nat} (h : abc l) : PyData.strOk (tx l) = true := by
  unfold PyData.strOk
  rw [← Array.all_toList, tx_list, List.all_eq_true]
  intro c hc
  have := h c hc
  exact decide_eq_true (by omega)
theorem sh_T {l : List Nat} (h : abc l) : Sh 1 (T l) := sh_str (strOk_abc h)
theorem keyN_T {l : List Nat} (h : abc l) : keyN (T l) = true := by
  show PyData.canLay0 (T l) = true
  exact (sh_T h).1
theorem rk_same : ∀ (n : Nat) (u v : List Nat), u.length = n → v.length = n → abc u → abc v → rk u ≤ 3 * rk v := by
  intro n
  induction n with
  | zero =>
    intro u v h1 h2 _ _
    rw [List.length_eq_zero_iff.mp h1]
    exact Nat.zero_le _
  | succ n ih =>
    intro u v h1 h2 hu hv
    rcases last_or u with h | ⟨L, b, h⟩
    · subst h; cases h1
    · rcases last_or v with h' | ⟨M, d, h'⟩
      · subst h'; cases h2
      · subst h h'
        have := ih L M (by simpa using h1) (by simpa using h2) (abc_l hu).1 (abc_l hv).1
        have h3 := (abc_l hu).2
        have h4 := (abc_l hv).2
        rw [rk_app, rk_app]
        omega
abbrev RS := List Nat × Option (List Nat)
def kyD (s : RS) : PyData := .tuple [T s.1, optT s.2]
def ndD (old new t : List Nat) : PyData := .tuple [T t, T (stR old new t).1, optT (stR old new t).2]
def kvR (old new : List Nat) (N : List (List Nat)) : List (PyData × PyData) := N.map fun t => (kyD (stR old new t), .bool true)
theorem optT_inj : ∀ {a b : Option (List Nat)}, optT a = optT b → a = b
  | none, none, _ => rfl
  | none, some _, h => by cases h
  | some _, none, h => by cases h
  | some a, some b, h => by
    have h2 : PyData.str (tx a) = PyData.str (tx b) := h
    injection h2 with h3
    rw [tx_inj h3]
theorem kyD_inj {a b : RS} (h : kyD a = kyD b) : a = b := by
  unfold kyD at h
  injection h with h
  injection h with h1 h2
  injection h2 with h2 _
  injection h1 with h1
  obtain ⟨a1, a2⟩ := a
  obtain ⟨b1, b2⟩ := b
  have e1 : a1 = b1 := tx_inj h1
  have e2 : a2 = b2 := optT_inj h2
  rw [e1, e2]
def okRS (old : List Nat) (s : RS) : Prop := Pre old s.1 ∧ ∀ q, s.2 = some q → Pre old q
theorem okRS_stR {old new : List Nat} (h : 1 ≤ old.length) (t : List Nat) : okRS old (stR old new t) := ⟨run_pre h t [] (pre_nil h), fun q e => wat_pre h _ [] q (pre_nil h) e⟩
theorem pre_abc {old p : List Nat} (h : abc old) (hp : Pre old p) : abc p := by rw [hp.1]; exact abc_take _ h
def allRS (old : List Nat) : List RS := (List.range 4).flatMap fun i => (old.take i, none) :: (List.range 4).map fun j => (old.take i, some (old.take j))
theorem allRS_len (old : List Nat) : (allRS old).length = 20 := rfl
theorem okRS_mem {old : List Nat} (h4 : old.length ≤ 4) {s : RS} (h : okRS old s) : s ∈ allRS old := by
  obtain ⟨p, q⟩ := s
  have h1 : p = old.take p.length := h.1.1
  have h2 : p.length < old.length := h.1.2
  unfold allRS
  refine List.mem_flatMap.mpr ⟨p.length, List.mem_range.mpr (by omega), ?_⟩
  rw [← h1]
  cases q with
  | none => exact List.mem_cons_self
  | some q =>
    have h3 := h.2 q rfl
    have h5 : q.length < old.length := h3.2
    refine List.mem_cons_of_mem _ (List.mem_map.mpr ⟨q.length, List.mem_range.mpr (by omega), ?_⟩)
    rw [← h3.1]
theorem okK_ky {old : List Nat} (ha : abc old) {s : RS} (h : okRS old s) : okK (kyD s) := by
  obtain ⟨p, q⟩ := s
  have h1 := keyN_T (pre_abc ha h.1)
  have hk : keyN (optT q) = true ∧ (optT q).depth ≤ 1 := by
    cases q with
    | none => exact ⟨rfl, by simp [optT, PyData.depth]⟩
    | some q => exact ⟨keyN_T (pre_abc ha (h.2 q rfl)), (sh_T (pre_abc ha (h.2 q rfl))).2⟩
  refine ⟨?_, ?_⟩
  · show (keyN (T p) && (keyN (optT q) && true)) = true
    rw [h1, hk.1]
    rfl
  · have h2 : (T p).depth ≤ 1 := by simp [PyData.depth]
    have h3 := hk.2
    unfold kyD
    simp only [PyData.depth, PyData.depthAll] at h3 h2 ⊢
    omega
theorem sh_nd {old new t : List Nat} (h1 : 1 ≤ old.length) (ha : abc old) (ht : abc t) : Sh 2 (ndD old new t) := sh_tuple fun d hd => by
  have ho := okRS_stR (new := new) h1 t
  simp only [List.mem_cons, List.not_mem_nil, or_false] at hd
  rcases hd with rfl | rfl | rfl
  · exact sh_T ht
  · exact sh_T (pre_abc ha ho.1)
  · cases e : (stR old new t).2 with
    | none => exact sh_none
    | some q => exact sh_T (pre_abc ha (ho.2 q e))
theorem stR_nd {old new u v : List Nat} {c : Nat} (h : stR old new u = stR old new v) : stR old new (u ++ [c]) = stR old new (v ++ [c]) := by rw [stR_app, stR_app, h]
theorem rds_len (old new p : List Nat) (c : Nat) : (rds old new p c).2.length ≤ p.length + 1 + new.length := by
  unfold rds
  split
  · show new.length ≤ _; omega
  · show ((p ++ [c]).take _).length ≤ _
    rw [List.length_take, List.length_append, List.length_singleton]; omega
theorem kv_keys (old new : List Nat) (N : List (List Nat)) : (kvR old new N).map (·.1) = (N.map (stR old new)).map kyD := by unfold kvR; rw [List.map_map, List.map_map]; rfl
theorem ky_mem {old new : List Nat} {N : List (List Nat)} {s : RS} : kyD s ∈ (kvR old new N).map (·.1) ↔ s ∈ N.map (stR old new) := by
  rw [kv_keys]
  constructor
  · intro h
    obtain ⟨x, hx, e⟩ := List.mem_map.mp h
    rw [← kyD_inj e]; exact hx
  · intro h; exact List.mem_map.mpr ⟨s, h, rfl⟩
theorem N_len {old new : List Nat} (h1 : 1 ≤ old.length) (h4 : old.length ≤ 4) {N : List (List Nat)} (hn : (N.map (stR old new)).Nodup) : N.length ≤ 20 := by
  have h := nd_le (N.map (stR old new)) (allRS old) hn fun x hx => by
    obtain ⟨t, _, rfl⟩ := List.mem_map.mp hx
    exact okRS_mem h4 (okRS_stR h1 t)
  rw [List.length_map, allRS_len] at h
  exact h
theorem map_get {α β : Type} {f : α → β} {l : List α} {i : Nat} {y : β} (h : (l.map f)[i]? = some y) : ∃ x, l[i]? = some x ∧ y = f x := by
  rw [List.getElem?_map] at h
  cases e : l[i]? with
  | none => rw [e] at h; cases h
  | some x => rw [e] at h; exact ⟨x, rfl, (Option.some.inj h).symm⟩
section
variable {K : PySem.W.Frag} {W : WX} {w : World} {ds : List PyData} {sd : SD} {τ : Tau} {ta tb tc : TE} {E : St → XK}
theorem ws_find_remaining (h : F_find_remaining ds sd) : WS K (t_find_remaining K W w) (startD 12 ds) (retE W sd) := by
  obtain ⟨old, new, o, rfl, hr, ho, rfl⟩ := h
  have ho1 := hr.o1
  have ho4 := hr.o4
  have hn4 := hr.n4
  have hoa := hr.oa
  show WS K (t_find_remaining K W w) [.dt (rep old new), .no, .no, .no, .no, .no, .no, .no, .no, .no, .no, .no] _
  unfold t_find_remaining
  refine ws_seq (ws_par3 (s1 := .dt (T old)) (s2 := .ls [ndD old new []]) (s3 := dcN w (kvR old new [[]])) (ev_op (ev_var rfl) ev_int (od_ix_tup rfl)) (ev_lst (ea_cons (ev_tup (ea_cons ev_str (ea_cons ev_str (ea_cons ev_str ea_nil))) (by show 3 ≤ sizeLine; decide)) ea_nil) (by show 1 ≤ sizeLine; decide)) (ev_ndisp (ev_tup (ea_cons ev_str (ea_cons ev_str ea_nil)) (by show 2 ≤ sizeLine; decide)) ev_bool (okK_ky (s := stR old new []) hoa (okRS_stR ho1 []))) ?_)
  refine ws_frz 2 rfl ?_
  refine ws_seq (ws_while (fun m τ => ∃ (A level : List (List Nat)) (n : Nat) (x4 x5 x6 x7 x8 x9 x10 x11 : SD), τ = [.dt (rep old new), .dt (T old), .dt (.list (level.map (ndD old new))), dcN w (kvR old new (A ++ level)), x4, x5, x6, x7, x8, x9, x10, x11] ∧ Srch (stR old new) (gdR old) (A ++ level) A.length ∧
      ((A ++ level).map (stR old new)).Nodup ∧ (∀ t ∈ level, t.length = n) ∧ n ≤ A.length ∧ m = 2 * (20 - (A ++ level).length) + (if level = [] then 0 else 1)) (2 * (20 - 1) + 1)
    ⟨[], [[]], 0, _, _, _, _, _, _, _, _, rfl, Srch.start, by simp, by simp, Nat.le_refl _, rfl⟩ ?_)
  rintro m τ ⟨A, level, n, x4, x5, x6, x7, x8, x9, x10, x11, rfl, hS, hnd, hlen, hnA, rfl⟩
  have hab : ∀ t ∈ level, abc t := fun t ht => hS.ab t (List.mem_append_right _ ht)
  have hN20 := N_len ho1 ho4 hnd
  refine ⟨!level.isEmpty, ?_, fun hb => ?_, fun hb => ?_⟩
  · refine et_test (ev_is (ev_op (ev_var rfl) (EvX.frz (ev_lst ea_nil (Nat.zero_le _))) (od_neD ((sh_list (n := 2) fun d hd => ?_).ok (by decide)) ((sh_list (n := 1) (ds := []) fun d hd => by cases hd).ok (by decide)))) ?_)
    · obtain ⟨t, ht, rfl⟩ := List.mem_map.mp hd
      exact sh_nd ho1 hoa (hab t ht)
    · cases level <;> rfl
  · have hne : level ≠ [] := fun z => by rw [z] at hb; cases hb
    rw [if_neg hne]
    refine ws_seq (ws_set (ev_lst ea_nil (Nat.zero_le _)) ?_)
    refine ws_seq (ws_for (ie_list (ev_var rfl)) (fun i τ => ∃ (longer : List (List Nat)) (x5 x6 x7 x8 x9 x10 x11 : SD), τ = [.dt (rep old new), .dt (T old), .dt (.list (level.map (ndD old new))), dcN w (kvR old new (A ++ level ++ longer)), .ls (longer.map (ndD old new)), x5, x6, x7, x8, x9, x10, x11] ∧
        Srch (stR old new) (gdR old) (A ++ level ++ longer) (A.length + i) ∧ ((A ++ level ++ longer).map (stR old new)).Nodup ∧ (∀ r ∈ longer, r.length = n + 1) ∧ ∀ r ∈ longer, ∀ (j : Nat) (y : List Nat), i ≤ j → level[j]? = some y → rk r < 3 * rk y + 1)
      ⟨[], _, _, _, _, _, _, _, by rw [List.append_nil]; rfl, by rw [List.append_nil]; exact hS, by rw [List.append_nil]; exact hnd, fun r hr => by (cases hr), fun r hr => by (cases hr)⟩ ?_ ?_)
    · rintro i x τ hx ⟨longer, y5, y6, y7, y8, y9, y10, y11, rfl, hS1, hnd1, hl1, hk1⟩
      obtain ⟨t, ht, rfl⟩ := map_get hx
      have htm := List.mem_of_getElem? ht
      have hta := hab t htm
      have htl := hlen t htm
      have hil := (List.getElem?_eq_some_iff.mp ht).1
      have hNt : (A ++ level ++ longer)[A.length + i]? = some t := by
        rw [List.getElem?_append_left (by rw [List.length_append]; omega), List.getElem?_append_right (by omega), show A.length + i - A.length = i by omega]
        exact ht
      have hokt := okRS_stR (new := new) ho1 t
      have hfound : gdR old (stR old new t) → SD.dt (T t) = SD.dt (optT o) := fun hg => by
        rw [← (hS1.found (fun u v c => stR_nd) hNt hg).uniq ho]
        rfl
      refine ⟨_, tg_tup (tgs_cons tg_name (tgs_cons tg_name (tgs_cons tg_name tgs_nil))) rfl, ?_⟩
      have hbase : ∀ r ∈ A ++ level, rk r ≤ 3 * rk t := fun r hr => by
        rcases List.mem_append.mp hr with hra | hrl
        · obtain ⟨q, hq⟩ := List.mem_iff_getElem?.mp hra
          have hql := (List.getElem?_eq_some_iff.mp hq).1
          have := hS1.srt q (A.length + i) r t (by omega) (by rw [List.append_assoc, List.getElem?_append_left hql]; exact hq) hNt
          omega
        · exact rk_same n r t (hlen r hrl) htl (hab r hrl) hta
      cases hs : (stR old new t).2 with
      | none =>
        refine ws_seq (ws_if (b := true) (et_orT (et_test (ev_is (ev_op (ev_var rfl) ev_none od_isN) rfl))) (fun _ => ws_ret (ev_var rfl) (hfound ?_)) (fun z => Bool.noConfusion z))
        unfold gdR
        rw [hs]
        rfl
      | some s =>
        have hpl : (stR old new t).1.length < old.length := hokt.1.2
        have hsl : s.length < old.length := (hokt.2 s hs).2
        have hgd : gdR old (stR old new t) ↔ wat old s (stR old new t).1 = none := by unfold gdR; rw [hs]; exact Iff.rfl
        refine ws_seq (ws_if (b := isNone (optT (wat old s (stR old new t).1))) (et_is (et_or (a := false) (b := isNone (optT (wat old s (stR old new t).1))) (et_test (ev_is (ev_op (ev_var rfl) ev_none od_isN) rfl)) fun _ => et_test (ev_op (e_watch (ev_var rfl) (ev_var rfl) (ev_var rfl) ho1 (by omega) (by omega) (by unfold Fit; omega)) ev_none od_isN)) (Bool.false_or _)) (fun hb => ws_ret (ev_var rfl) (hfound (hgd.mpr ?_))) (fun hb => ws_next ?_))
        · cases e : wat old s (stR old new t).1 with
          | none => rfl
          | some q => rw [e] at hb; cases hb
        have hng : ¬ gdR old (stR old new t) := fun z => by rw [hgd.mp z] at hb; cases hb
        refine ws_forN (in_str ev_str) (fun k τ => ∃ (longer : List (List Nat)) (x8 x9 x10 x11 : SD), τ = [.dt (rep old new), .dt (T old), .dt (.list (level.map (ndD old new))), dcN w (kvR old new (A ++ level ++ longer)), .ls (longer.map (ndD old new)), .dt (T t), .dt (T (stR old new t).1), .dt (T s), x8, x9, x10, x11] ∧
          Srch (stR old new) (gdR old) (A ++ level ++ longer) (A.length + i) ∧ ((A ++ level ++ longer).map (stR old new)).Nodup ∧ (∀ r ∈ longer, r.length = n + 1) ∧ (∀ r ∈ longer, rk r < 3 * rk t + 1 + k) ∧ ∀ c, 97 ≤ c → c < 97 + k → ∃ r ∈ A ++ level ++ longer, stR old new r = stR old new (t ++ [c]) ∧ rk r ≤ rk (t ++ [c]))
          ⟨longer, _, _, _, _, rfl, hS1, hnd1, hl1, fun r hr => by have := hk1 r hr i t (Nat.le_refl _) ht; omega, fun c h1 h2 => by omega⟩ ?_ ?_
        · rintro k x τ hx ⟨lg, z8, z9, z10, z11, rfl, hS2, hnd2, hl2, hk2, hc2⟩
          obtain ⟨c, hc, rfl⟩ := signs_get hx
          have hck : c = 97 + k ∧ k < 3 := by
            match k, hc with
            | 0, hc => cases hc; exact ⟨rfl, by decide⟩
            | 1, hc => cases hc; exact ⟨rfl, by decide⟩
            | 2, hc => cases hc; exact ⟨rfl, by decide⟩
          obtain ⟨hck, hk3⟩ := hck
          have hcs : c = 97 ∨ c = 98 ∨ c = 99 := by omega
          have hlt20 := N_len ho1 ho4 hnd2
          have hst : stR old new (t ++ [c]) = ((rds old new (stR old new t).1 c).1, wat old s (rds old new (stR old new t).1 c).2) := by rw [stR_app, hs]; rfl
          have hrl := rds_len old new (stR old new t).1 c
          have hrk : rk (t ++ [c]) = 3 * rk t + 1 + k := by rw [rk_app]; omega
          have hall : ∀ r ∈ A ++ level ++ lg, rk r < rk (t ++ [c]) := fun r hr => by
            rw [hrk]
            rcases List.mem_append.mp hr with z | z
            · have := hbase r z; omega
            · exact hk2 r z
          refine ⟨_, tg_name, ?_⟩
          refine ws_seq (ws_asg (e_read_sign (ev_var rfl) (ev_var rfl) (ev_var rfl) hr (by omega)) (tg_tup (tgs_cons tg_name (tgs_cons tg_name tgs_nil)) rfl) ?_)
          refine ws_seq (ws_set (e_watch (ev_var rfl) (ev_var rfl) (ev_var rfl) ho1 (by omega) (by omega) (by unfold Fit; omega)) ?_)
          have hky : PyData.tuple [T (rds old new (stR old new t).1 c).1, optT (wat old s (rds old new (stR old new t).1 c).2)] = kyD (stR old new (t ++ [c])) := by rw [hst]; rfl
          have hokk := okK_ky hoa (okRS_stR (new := new) ho1 (t ++ [c]))
          rw [← hky] at hokk
          refine ws_ifNi (kvs := kvR old new (A ++ level ++ lg)) (i := 3) rfl (ev_tup (ea_cons (ev_var rfl) (ea_cons (ev_var rfl) ea_nil)) (by show 2 ≤ sizeLine; decide)) hokk (fun hni => ?_) (fun hin => ?_)
          · have hni2 : stR old new (t ++ [c]) ∉ (A ++ level ++ lg).map (stR old new) := fun z => hni (by rw [hky]; exact ky_mem.mpr z)
            refine ws_seq (ws_nput (kvs := kvR old new (A ++ level ++ lg)) (i := 3) rfl (ev_tup (ea_cons (ev_var rfl) (ea_cons (ev_var rfl) ea_nil)) (by show 2 ≤ sizeLine; decide)) hokk ev_bool hni (by unfold kvR; rw [List.length_map]; have := szl; omega) ?_)
            refine ws_append (i := 4) rfl (ev_tup (ea_cons (ev_op (ev_var rfl) (ev_var rfl) (od_addT (by have := szl; simp only [List.length_append, List.length_singleton] at hlt20 ⊢; omega))) (ea_cons (ev_var rfl) (ea_cons (ev_var rfl) ea_nil))) (by show 3 ≤ sizeLine; decide)) (by rw [List.length_map]; have := szl; simp only [List.length_append] at hlt20; omega) ?_
            have hd1 : PyData.tuple [T (t ++ [c]), T (rds old new (stR old new t).1 c).1, optT (wat old s (rds old new (stR old new t).1 c).2)] = ndD old new (t ++ [c]) := by unfold ndD; rw [hst]
            have hd2 : kvR old new (A ++ level ++ lg) ++ [(PyData.tuple [T (rds old new (stR old new t).1 c).1, optT (wat old s (rds old new (stR old new t).1 c).2)], .bool true)] = kvR old new (A ++ level ++ (lg ++ [t ++ [c]])) := by
              rw [hky, ← List.append_assoc]; unfold kvR; simp only [List.map_append, List.map_cons, List.map_nil]
            refine ⟨lg ++ [t ++ [c]], .dt (T [c]), .dt (T (rds old new (stR old new t).1 c).1), .dt (T (rds old new (stR old new t).1 c).2), .dt (optT (wat old s (rds old new (stR old new t).1 c).2)), ?_, ?_, ?_, ?_, ?_, ?_⟩
            · rw [← hd2, List.map_append, List.map_singleton, ← hd1]; rfl
            · rw [← List.append_assoc]
              exact hS2.more (by rw [List.length_append, List.length_append]; omega) (abc_app hta (abc_cons hcs abc_nil)) hall
            · rw [← List.append_assoc, List.map_append, List.map_singleton]
              refine List.nodup_append.mpr ⟨hnd2, by simp, fun a ha b hb => ?_⟩
              rw [List.mem_singleton.mp hb]
              exact fun z => hni2 (z ▸ ha)
            · intro r hr
              rcases List.mem_append.mp hr with z | z
              · exact hl2 r z
              · rw [List.mem_singleton.mp z, List.length_append, List.length_singleton]; omega
            · intro r hr
              rcases List.mem_append.mp hr with z | z
              · have := hk2 r z; omega
              · rw [List.mem_singleton.mp z, hrk]; omega
            · intro c' h1 h2
              rcases Nat.lt_or_ge c' (97 + k) with z | z
              · obtain ⟨r, q1, q2⟩ := hc2 c' h1 z
                exact ⟨r, by rw [← List.append_assoc]; exact List.mem_append_left _ q1, q2⟩
              · have e : c' = c := by omega
                subst e
                exact ⟨t ++ [c'], by rw [← List.append_assoc]; exact List.mem_append_right _ (List.mem_singleton.mpr rfl), rfl, Nat.le_refl _⟩
          · refine ws_next ⟨lg, _, _, _, _, rfl, hS2, hnd2, hl2, fun r hr => by have := hk2 r hr; omega, fun c' h1 h2 => ?_⟩
            rcases Nat.lt_or_ge c' (97 + k) with z | z
            · exact hc2 c' h1 z
            · have e : c' = c := by omega
              subst e
              rw [hky] at hin
              obtain ⟨r, q1, q2⟩ := List.mem_map.mp (ky_mem.mp hin)
              exact ⟨r, q1, q2, Nat.le_of_lt (hall r q1)⟩
        · rintro τ ⟨lg, z8, z9, z10, z11, rfl, hS2, hnd2, hl2, hk2, hc2⟩
          have hNt2 : (A ++ level ++ lg)[A.length + i]? = some t := by
            rw [List.getElem?_append_left (by rw [List.length_append]; omega), List.getElem?_append_right (by omega), show A.length + i - A.length = i by omega]
            exact ht
          have h3 : (signs (tx [97, 98, 99])).length = 3 := rfl
          rw [h3] at hk2 hc2
          refine ⟨lg, _, _, _, _, _, _, _, rfl, hS2.next hNt2 hng fun c hc => hc2 c (by omega) (by omega), hnd2, hl2, fun r hr j y hj hy => ?_⟩
          have hjl := (List.getElem?_eq_some_iff.mp hy).1
          have h1 := hk2 r hr
          have h2 := hS2.srt (A.length + i) (A.length + j) t y (by omega) hNt2 (by
            rw [List.getElem?_append_left (by rw [List.length_append]; omega), List.getElem?_append_right (by omega), show A.length + j - A.length = j by omega]
            exact hy)
          omega
    · rintro τ ⟨longer, y5, y6, y7, y8, y9, y10, y11, rfl, hS1, hnd1, hl1, hk1⟩
      have hN2 := N_len ho1 ho4 hnd1
      refine ws_frz 4 rfl (ws_set (ev_var rfl) ⟨_, ?_, A ++ level, longer, n + 1, _, _, _, _, _, _, _, _, rfl, ?_, hnd1, hl1, ?_, rfl⟩)
      · have hpos : 0 < level.length := List.length_pos_iff.mpr hne
        simp only [List.length_append] at hN2 ⊢
        by_cases z : longer = []
        · rw [if_pos z, z, List.length_nil]; omega
        · have : 0 < longer.length := List.length_pos_iff.mpr z
          rw [if_neg z]; omega
      · rw [List.length_map] at hS1
        rw [List.length_append]
        exact hS1
      · have hpos : 0 < level.length := List.length_pos_iff.mpr hne
        rw [List.length_append]; omega
  · have hle : level = [] := by cases level with
      | nil => rfl
      | cons a b => cases hb
    refine ws_ret ev_none ?_
    show SD.dt .none = SD.dt (optT o)
    rw [← (hS.done (fun u v c => stR_nd) (by rw [hle, List.append_nil]; exact Nat.le_refl _)).uniq ho]
    rfl
theorem e_find_remaining {old new : List Nat} {o : Option (List Nat)} (ha : EvS K ta τ (rep old new)) (h : Rp old new) (ho : IsFirst (fun t => gdR old (stR old new t)) o) : EvX K (tCallS (spD K F_find_remaining) E (tCons ta tNil)) τ (.dt (optT o)) :=
  ev_call (ea_cons ha ea_nil) ⟨old, new, o, rfl, h, ho, rfl⟩
end
end Sw
/-! part SwZ -/
set_option Elab.async false
set_option linter.all false
set_option maxRecDepth 100000
set_option maxHeartbeats 4000000
namespace Sw
open PySem PySem.Spec L2

/-! ## O. zip of a list and a tuple; tuple(list); tuple * 0, tuple * 1 -/
def zmH (h : Heap) (l1 l2 : Addr) : Heap :=
  ((((h.push { cls := .type "list_iterator", data := .fields #[.ref l1, .int 0 0] }).push { cls := .type "tuple_iterator", data := .fields #[.ref l2, .int 0 0] }).push { cls := .type "tuple", data := .seq #[.ref h.objs.size, .ref (h.objs.size + 1)] }).push { cls := .type "tuple", data := .seq #[.none, .none] }).push
    { cls := .type "zip", data := .fields #[.none, .bool false, .bool false, .ref (h.objs.size + 2), .ref (h.objs.size + 3)] }
theorem meets_zm (l1 l2 : Addr) (xs ys : Array Value) :
    Meets (Builtin.«zip.__new__» ⟨[.type "zip", .ref l1, .ref l2], []⟩) (fun _ R s => s.heap.IsList l1 xs ∧ s.heap.IsTuple l2 ys ∧ R (.ok (.ret (.ref (s.heap.objs.size + 4)))) { s with heap := zmH s.heap l1 l2 }) :=
  .of_wp fun prog w A R s h => by
    obtain ⟨hp, g, d, tk, os⟩ := s; obtain ⟨hl1, hl2, h⟩ := h
    have hsub := sub_zip
    have hL1 : Heap.IsList (Shared.heap ⟨hp, g, d, tk, os⟩) l1 xs := hl1
    have hL2 : Heap.IsTuple (Shared.heap ⟨hp.push { cls := .type "list_iterator", data := .fields #[.ref l1, .int 0 0] }, g, d, tk, os⟩) l2 ys := Heap.IsTuple.push hl2 _
    simp only [zmH] at h
    wp_walk using wpAny_pyIter_list hL1, wpAny_pyIter_tuple hL2
    refine ⟨_, rfl, ?_⟩
    simp only [Heap.size_push]
    exact h
section
variable {prog : Program} {w : World} {A : Around} {E : Value → Shared → Prop} {s : Shared}
theorem call_zm {l1 l2 : Addr} {xs ys : Array Value} {Q : Value → Shared → Prop} (hl1 : s.heap.IsList l1 xs) (hl2 : s.heap.IsTuple l2 ys)
    (h : ∀ h', IsZip h' (s.heap.objs.size + 4) (s.heap.objs.size + 2) (s.heap.objs.size + 3) .none → IsPair h' (s.heap.objs.size + 2) (.ref s.heap.objs.size) (.ref (s.heap.objs.size + 1)) →
      IsPair h' (s.heap.objs.size + 3) .none .none → h'.IsListIter s.heap.objs.size l1 0 → h'.IsTupleIter (s.heap.objs.size + 1) l2 0 →
      (∀ c o, s.heap.get? c = some o → h'.get? c = some o) → Q (.ref (s.heap.objs.size + 4)) { s with heap := h' }) :
    wpAny (model prog w) A (call (.type "zip") [.ref l1, .ref l2]) Q E s := by
  refine callType_new F.called_zip (by decide) (F.typeCall_zip_2 _ _) (F.newCall_zip_2 _ _) (fun obj => F.args_object_init_3 obj _ _) F.entry_zip_new
    (meets_zm l1 l2 xs ys) ⟨hl1, hl2, ?_⟩
  have z0 : ∀ (h0 : Heap) (o : Obj), (h0.push o).objs.size = h0.objs.size + 1 := fun h0 o => Heap.size_push ..
  let p1 := s.heap.push { cls := .type "list_iterator", data := .fields #[.ref l1, .int 0 0] }
  let p2 := p1.push { cls := .type "tuple_iterator", data := .fields #[.ref l2, .int 0 0] }
  let p3 := p2.push { cls := .type "tuple", data := .seq #[.ref s.heap.objs.size, .ref (s.heap.objs.size + 1)] }
  let p4 := p3.push { cls := .type "tuple", data := .seq #[.none, .none] }
  have z1 : p1.objs.size = s.heap.objs.size + 1 := z0 _ _
  have z2 : p2.objs.size = s.heap.objs.size + 2 := by rw [z0, z1]
  have z3 : p3.objs.size = s.heap.objs.size + 3 := by rw [z0, z2]
  have z4 : p4.objs.size = s.heap.objs.size + 4 := by rw [z0, z3]
  have g1 : (zmH s.heap l1 l2).get? s.heap.objs.size = some _ := Heap.get?_push_of_some _ (Heap.get?_push_of_some _ (Heap.get?_push_of_some _ (Heap.get?_push_of_some _ (Heap.get?_push_size _ rfl))))
  have g2 : (zmH s.heap l1 l2).get? p1.objs.size = some _ := Heap.get?_push_of_some _ (Heap.get?_push_of_some _ (Heap.get?_push_of_some _ (Heap.get?_push_size _ rfl)))
  have g3 : (zmH s.heap l1 l2).get? p2.objs.size = some _ := Heap.get?_push_of_some _ (Heap.get?_push_of_some _ (Heap.get?_push_size _ rfl))
  have g4 : (zmH s.heap l1 l2).get? p3.objs.size = some _ := Heap.get?_push_of_some _ (Heap.get?_push_size _ rfl)
  have g5 : (zmH s.heap l1 l2).get? p4.objs.size = some _ := Heap.get?_push_size _ rfl
  rw [z1] at g2
  rw [z2] at g3
  rw [z3] at g4
  rw [z4] at g5
  show _ ∧ _
  exact ⟨⟨_, g5, rfl⟩, h _ g5 g3 g4 ⟨_, g1, rfl, rfl⟩ ⟨_, g2, rfl, rfl⟩ fun c o x =>
    Heap.get?_push_of_some _ (Heap.get?_push_of_some _ (Heap.get?_push_of_some _ (Heap.get?_push_of_some _ (Heap.get?_push_of_some _ x))))⟩
end
/-- the list at a and the tuple at b, the items in new pairs -/
def ItzM (K : PySem.W.Frag) (a b : Addr) : It :=
  ⟨fun i H => ∃ (xs ys : List V) (x y : V), SqL K H a xs ∧ SqT K H b ys ∧ xs[i]? = some x ∧ ys[i]? = some y,
    fun i H v H' => ∃ T x y, v = .ref T ∧ H T = none ∧ H' = upd H T (.tup [x, y]) ∧ (∀ xs, SqL K H a xs → xs[i]? = some x) ∧ ∀ ys, SqT K H b ys → ys[i]? = some y,
    fun i H => ∃ xs ys : List V, SqL K H a xs ∧ SqT K H b ys ∧ i ≤ xs.length ∧ i ≤ ys.length ∧ (xs.length = i ∨ ys.length = i)⟩
theorem sep_of {z TI TO i1 i2 a b : Addr} (D : ZipApart z TI TO i1 i2 a b) : ZipSep2 z TI TO i1 i2 [i1, a] [i2, b] where
  TIz := D.TIz
  TOz := D.TOz
  TITO := D.TITO
  TIi1 := D.TIi1
  mem1 := by simp
  zf1 := by simp; exact ⟨D.i1z.symm, D.l1z.symm⟩
  Tf1 := by simp; exact ⟨D.TOi1, D.l1TO.symm⟩
  TIi2 := D.TIi2
  mem2 := by simp
  zf2 := by simp; exact ⟨D.i2z.symm, D.l2z.symm⟩
  Tf2 := by simp; exact ⟨D.TOi2, D.l2TO.symm⟩
  sep1_2 := by simp; exact ⟨D.i12, D.l2i1.symm⟩
  sep2_1 := by simp; exact ⟨D.i12.symm, D.l1i2.symm⟩
theorem turn_zm {P : Program} {w : World} {K : PySem.W.Frag} {elts : List Expr} {kk : Nat} {tpos : Pos} {a b z TI TO i1 i2 : Addr} (D : ZipApart z TI TO i1 i2 a b) :
    Turn P w K (.Tuple elts kk tpos) (ItzM K a b) [z, TI, TO, i1, i2] z (fun i h => IsZip h z TI TO .none ∧ IsPair h TI (.ref i1) (.ref i2) ∧ (∃ x y, IsPair h TO x y) ∧ h.IsListIter i1 a i ∧ h.IsTupleIter i2 b i) where
  mem := by simp
  obj := fun i h st c hc => by
    obtain ⟨hz, hTI, ⟨x, y, hTO⟩, ⟨o1, e1, _, d1⟩, ⟨o2, e2, _, d2⟩⟩ := st
    have e' : c = z ∨ c = TI ∨ c = TO ∨ c = i1 ∨ c = i2 := by simpa using hc
    rcases e' with q | q | q | q | q
    · rw [q]; exact ⟨_, hz, fun v q => nomatch q⟩
    · rw [q]; exact ⟨_, hTI, fun v q => nomatch q⟩
    · rw [q]; exact ⟨_, hTO, fun v q => nomatch q⟩
    · rw [q]; exact ⟨o1, e1, fun v q => by rw [d1] at q; cases q⟩
    · rw [q]; exact ⟨o2, e2, fun v q => by rw [d2] at q; cases q⟩
  keep := fun i h h' st k => by
    obtain ⟨hz, hTI, ⟨x, y, hTO⟩, h1, h2⟩ := st
    exact ⟨k z (by simp) _ hz, k TI (by simp) _ hTI, ⟨x, y, k TO (by simp) _ hTO⟩, h1.at fun o q => k i1 (by simp) o q, h2.at fun o q => k i2 (by simp) o q⟩
  item := by
    intro X hP hw hK hc i pins s σ H E I hf st hg
    subst hP hw hK
    obtain ⟨hz, hTI, ⟨x0, y0, hTO⟩, h1, h2⟩ := st
    obtain ⟨xs, ys, x, y, hqx, hqy, hx, hy⟩ := hg
    obtain ⟨its, rv, p, _⟩ := I.list hqx
    obtain ⟨its2, rv2, p2, _⟩ := I.tuple hqy
    obtain ⟨u, hu, ru⟩ := rv.get hx
    obtain ⟨u2, hu2, ru2⟩ := rv2.get hy
    have hzl : z < s.heap.objs.size := Heap.lt_size hz
    have hh : X.A.in1.handled = none := I.ok.hd hc
    have l1 : i < its.toArray.size := by simpa using (List.getElem?_eq_some_iff.mp hu).1
    have l2 : i < its2.toArray.size := by simpa using (List.getElem?_eq_some_iff.mp hu2).1
    refine wpAny_pyNext_zipD2_item (sep_of D) (Draws.list hh i1 a D.l1i1 its.toArray) (Draws.tuple hh i2 b D.l2i2 its2.toArray) hz hTI hTO ⟨h1, p.isList⟩ ⟨h2, p2⟩ l1 l2 fun v1 v2 h' tk e1 e2 z' TO' s1 s2 hT hsz hk => ?_
    have e1 : its.toArray[i]? = some v1 := e1
    have e2 : its2.toArray[i]? = some v2 := e2
    obtain rfl : u = v1 := by simpa [hu] using e1
    obtain rfl : u2 = v2 := by simpa [hu2] using e2
    refine ⟨_, rfl, wpAny_letOwnedTupleGo_zip (s := { s with heap := h', toks := tk }) z' fun h'' z'' sb => ?_⟩
    have hT2 : h''.get? s.heap.objs.size = some { cls := .type "tuple", data := .seq #[u, u2] } := (sb.2 _ (Nat.ne_of_gt hzl)).trans hT
    have new : ObjOk X.prog X.w (upd H s.heap.objs.size (.tup [x, y])) h'' s.heap.objs.size (.tup [x, y]) :=
      ⟨by show 2 ≤ sizeLine; decide, [u, u2], .cons ru (.cons ru2 .nil), ⟨_, hT2, rfl, _, rfl⟩⟩
    have I1 : Inv X pins σ (upd H s.heap.objs.size (.tup [x, y])) { s with heap := h'', toks := tk } :=
      I.turnedNew (t' := tk) (ch := [z, TI, TO, i1, i2]) (fun c o hb q => (sb.2 c (fun q' => hb (by simp [q']))).trans (hk c o (fun q' => hb (by simp [q'])) (fun q' => hb (by simp [q'])) (fun q' => hb (by simp [q'])) (fun q' => hb (by simp [q'])) q)) hf (Nat.le_refl _) new
    refine ⟨.ref s.heap.objs.size, _, I1, rfl, ⟨_, x, y, rfl, I.hok.fresh (Nat.le_refl _), rfl, fun l hl => by rw [I.list_inj hl hqx]; exact hx, fun l hl => by rw [I.tuple_inj hl hqy]; exact hy⟩, ⟨z'', ?_, ⟨u, u2, ?_⟩, ?_, ?_⟩, fun c hcm => ?_⟩
    · exact (sb.2 _ D.TIz).trans (hk _ _ D.TIz D.TITO D.TIi1 D.TIi2 hTI)
    · exact (sb.2 _ D.TOz).trans TO'
    · exact s1.1.at fun o q => (sb.2 _ D.i1z).trans q
    · exact s2.1.at fun o q => (sb.2 _ D.i2z).trans q
    · have hlt : c < s.heap.objs.size := by
        have e' : c = z ∨ c = TI ∨ c = TO ∨ c = i1 ∨ c = i2 := by simpa using hcm
        rcases e' with q | q | q | q | q
        · rw [q]; exact hzl
        · rw [q]; exact Heap.lt_size hTI
        · rw [q]; exact Heap.lt_size hTO
        · rw [q]; obtain ⟨_, e1, _⟩ := h1; exact Heap.lt_size e1
        · rw [q]; obtain ⟨_, e2, _⟩ := h2; exact Heap.lt_size e2
      rw [upd_ne (Nat.ne_of_lt hlt)]
      exact (hf c hcm).1
  done := by
    intro X hP hw hK hc i pins s σ H E I hf st hg
    subst hP hw hK
    obtain ⟨hz, hTI, ⟨x0, y0, hTO⟩, h1, h2⟩ := st
    obtain ⟨xs, ys, hqx, hqy, le1, le2, hend⟩ := hg
    obtain ⟨its, rv, p, _⟩ := I.list hqx
    obtain ⟨its2, rv2, p2, _⟩ := I.tuple hqy
    have l1 := rv.length
    have l2 := rv2.length
    have hh : X.A.in1.handled = none := I.ok.hd hc
    exact wpAny_pyNext_zipD2_end (sep_of D) (Draws.list hh i1 a D.l1i1 its.toArray) (Draws.tuple hh i2 b D.l2i2 its2.toArray) hz hTI hTO ⟨h1, p.isList⟩ ⟨h2, p2⟩ (by simp; omega) (by simp; omega) (by simp; omega) fun h' tk hk => ⟨rfl, I.turnedL (t' := tk) (ch := [z, TI, TO, i1, i2]) (fun c o hb q =>
      hk c o (fun q' => hb (by simp [q'])) (fun q' => hb (by simp [q'])) (fun q' => hb (by simp [q'])) (fun q' => hb (by simp [q'])) q) hf⟩
  self := fun A i s Q E st h => wpAny_pyIter_zip st.1 h
def iZipM (K : PySem.W.Frag) (ta : TA) : TI := fun σ H R => ta σ H fun vs H1 => ∃ a b xs ys, vs = [.ref a, .ref b] ∧ SqL K H1 a xs ∧ SqT K H1 b ys ∧ R (ItzM K a b) H1
theorem pi_zipM {X : Cx} {e e2 : Expr} {ta : TA} {p pos tpos : Pos} {elts : List Expr} {kk : Nat} (hg : Gl X "zip") (hm : X.mg "zip" = none) (ha : PA X [e, e2] ta)
    (hs : starEach [e, e2] X.env = (false, eval e X.env) :: starEach [e2] X.env := by rfl) (hpl : (backTo pos (starEach [e2] X.env)).any (·.1) = false := by rfl) :
    PI X (.Tuple elts kk tpos) (.Call (.Name "zip" p) [e, e2] [] pos) (iZipM X.K ta) := by
  refine ⟨fun pins s σ H R I h => ?_⟩
  refine PyProof.Rows.Call_ (ld_blt I hg hm PyProof.Rows.boot_zip (PyProof.Rows.callWith_type1 (thn (ha.run pos pins s σ H _ I h) fun us s1 ⟨vs, H1, I1, r1, q1⟩ => ?_) hs hpl))
  obtain ⟨a, b, xs, ys, ex, hqx, hqy, q⟩ := q1
  subst ex
  cases r1 with
  | cons r rr =>
    cases rr with
    | cons r' rr =>
      cases rr
      cases r
      cases r'
      obtain ⟨its, rv, p1, _⟩ := I1.list hqx
      obtain ⟨its2, rv2, p2, _⟩ := I1.tuple hqy
      have la : a < s1.heap.objs.size := p1.lt
      have lb : b < s1.heap.objs.size := by obtain ⟨o2, ho2, _⟩ := id p2; exact Heap.lt_size ho2
      refine call_zm p1.isList p2 fun h' hz hTI hTO h1 h2 hk => wpAny_pyIter_zip hz ?_
      have I2 : Inv X pins σ H1 { s1 with heap := h' } := I1.kept (t' := s1.toks) hk
      refine ⟨s1.heap.objs.size + 4, [s1.heap.objs.size + 4, s1.heap.objs.size + 2, s1.heap.objs.size + 3, s1.heap.objs.size, s1.heap.objs.size + 1], _, _, H1, rfl, I2, turn_zm (PySem.W.ktu_apart s1.heap.objs.size a b la lb), ⟨hz, hTI, ⟨_, _, hTO⟩, h1, h2⟩, fun c hcm => ?_, q⟩
      have e' : c = s1.heap.objs.size + 4 ∨ c = s1.heap.objs.size + 2 ∨ c = s1.heap.objs.size + 3 ∨ c = s1.heap.objs.size ∨ c = s1.heap.objs.size + 1 := by simpa using hcm
      have hle : s1.heap.objs.size ≤ c := by
        rcases e' with z | z | z | z | z <;> rw [z] <;> omega
      exact I1.fpOk hle (I1.hok.fresh hle)
end Sw
/-! part SwY -/
set_option Elab.async false
set_option linter.all false
set_option maxRecDepth 100000
set_option maxHeartbeats 4000000
namespace Sw
open PySem PySem.Spec L2 PyProof.Rows

/-! ## P. tuple * 0, tuple * 1; tuple(list); zip over data -/
theorem tuple_mul1 (l : Addr) (items : Array Value) (n : Nat) (dd : Option Addr) (sl : Array (Option Value)) (u : Tok) :
    Meets (Builtin.«tuple.__mul__» ⟨[.ref l, .int 1 u], []⟩) (fun _ R s => s.heap.get? l = some { cls := .type "tuple", dict := dd, data := .seq items n, slots := sl } ∧ R (.ok (.ret (.ref l))) s) :=
  .of_wp fun prog w A R s h => by
    obtain ⟨hp, g, d, tk, os⟩ := s
    obtain ⟨hl, h⟩ := h
    have f1 := AutoSeq1.idx_int
    wp_walk using wpAny_loadPart' hl
    exact ⟨_, rfl, h⟩
theorem tuple_mul0 (l : Addr) (items : Array Value) (n : Nat) (dd : Option Addr) (sl : Array (Option Value)) (u : Tok) (c1 : (items.isEmpty || (0 : Int) == 1) = false) :
    Meets (Builtin.«tuple.__mul__» ⟨[.ref l, .int 0 u], []⟩) (fun _ R s => s.heap.get? l = some { cls := .type "tuple", dict := dd, data := .seq items n, slots := sl } ∧
      R (.ok (.ret (Value.ref s.heap.objs.size))) { s with heap := s.heap.push { cls := Value.type "tuple", data := Data.seq #[] }, toks := s.toks }) :=
  .of_wp fun prog w A R s h => by
    obtain ⟨hp, g, d, tk, os⟩ := s
    obtain ⟨hl, h⟩ := h
    have f1 := AutoSeq1.idx_int
    wp_walk using wpAny_loadPart' hl
    repeat (first
      | (refine wpAny_ite_false (decide_eq_false (by rw [c1]; exact Bool.false_ne_true)) ?_; wp_walk using wpAny_loadPart' hl)
      | (refine wpAny_ite_true (decide_eq_true (by simp)) ?_; wp_walk using wpAny_loadPart' hl))
    exact ⟨_, rfl, h⟩
def rRepZ (K : PySem.W.Frag) : R2 := fun x y H Q => ∃ l k xs, x = .ref l ∧ y = .int k ∧ SqT K H l xs ∧ xs ≠ [] ∧ ((k = 1 ∧ Q (.ref l) H) ∨ (k = 0 ∧ ∀ p, H p = none → Q (.ref p) (upd H p (.tup []))))
def rMulTu (K : PySem.W.Frag) : R2 := fun x y H Q => rRepT K x y H Q ∨ rRepZ K x y H Q
section
variable {X : Cx}
theorem op_repZ : OpR X (binaryOp .Mult) (rRepZ X.K) := by
  intro pins s σ H x y v u Q I rx ry h
  obtain ⟨l, k, xs, rfl, rfl, hT, hne, h⟩ := h
  cases rx
  obtain ⟨t, rfl⟩ := ry
  obtain ⟨its, r, ⟨⟨cls, dd, data, sl⟩, ho, hc, n, hd⟩, hs⟩ := I.tuple hT
  simp only at hc hd
  subst hc hd
  have hle : its.length = xs.length := r.length.symm
  have hi : its.toArray.isEmpty = false := by
    cases its with
    | nil => exact absurd (List.eq_nil_of_length_eq_zero hle.symm) hne
    | cons a b => rfl
  rcases h with ⟨rfl, q⟩ | ⟨rfl, q⟩
  · exact wpAny_binaryOp_repeat_ref (T := "tuple") (U := "int") (by decide) ⟨_, ho, rfl⟩ (fun s' => typeIs_int s' 1 t) noFill_tuple_mul F.fills_int_mul F.slot_int_rmul repeat_tuple F.slot_int_index.lookup
      (call_meets F.slot_int_rmul (typeIs_int s 1 t) F.entry_int_rmul (F.args_int_rmul_2 _ _) (int_rmul_tuple 1 t l its.toArray n dd sl)
        ⟨ho, rfl, ⟨_, ho, rfl⟩, call_meets F.slot_tuple_mul ⟨_, ho, rfl⟩ F.entry_tuple_mul (F.args_tuple_mul_2 _ _) (tuple_mul1 l its.toArray n dd sl t) ⟨ho, ⟨.ref l, H, I, rfl, q⟩⟩⟩)
  · refine wpAny_binaryOp_repeat_ref (T := "tuple") (U := "int") (by decide) ⟨_, ho, rfl⟩ (fun s' => typeIs_int s' 0 t) noFill_tuple_mul F.fills_int_mul F.slot_int_rmul repeat_tuple F.slot_int_index.lookup
      (call_meets F.slot_int_rmul (typeIs_int s 0 t) F.entry_int_rmul (F.args_int_rmul_2 _ _) (int_rmul_tuple 0 t l its.toArray n dd sl)
        ⟨ho, rfl, ⟨_, ho, rfl⟩, call_meets F.slot_tuple_mul ⟨_, ho, rfl⟩ F.entry_tuple_mul (F.args_tuple_mul_2 _ _) (tuple_mul0 l its.toArray n dd sl t (by rw [hi]; rfl)) ⟨ho, ?_⟩⟩)
    refine ⟨.ref s.heap.objs.size, _, I.laid (t' := s.toks) (o := .tup []) (fun b ob q => Heap.get?_push_of_some _ q) (Nat.le_refl _) ?_, rfl, q _ (I.hok.fresh (Nat.le_refl _))⟩
    exact ⟨Nat.zero_le _, [], .nil, IsTup.new _ _⟩
theorem op_mulTu : OpR X (binaryOp .Mult) (rMulTu X.K) := OpR.or op_repT op_repZ
end
section
variable {K : PySem.W.Frag} {τ : Tau} {ta tb te : TE} {d : PyData}
theorem dps_rep1 {B : Hp} {v : V} (h : Dd K B v d) : ∀ n : Nat, DdAll K B (List.replicate n v) (List.replicate n d)
  | 0 => .nil
  | n + 1 => .cons h (dps_rep1 h n)
theorem flat_one {α : Type} (v : α) : ∀ n : Nat, (List.replicate n [v]).flatten = List.replicate n v
  | 0 => rfl
  | n + 1 => by
    rw [List.replicate_succ, List.flatten_cons, flat_one v n, List.replicate_succ]
    rfl
theorem od_mul_tup1 {k : Nat} (hk : k ≤ 1000) : OpD K (rMulTu K) (.tuple [d]) (.int (k : Int)) (.dt (.tuple (List.replicate k d))) := fun B H v u e hx hy Q q => by
  cases hy
  cases hx with
  | @tup a vs _ hs ha =>
    cases ha with
    | @cons v1 vr _ _ h1 hr =>
      cases hr
      have hsH := st_same e hs
      by_cases h2 : 2 ≤ k
      · refine .inl ⟨a, _, [v1], rfl, rfl, hsH, by simp, by omega, by omega, by simp, fun p hp => q _ _ _ (Step.new (o := .tup _) e hp) ?_⟩
        rw [Int.toNat_natCast, flat_one]
        exact .tup (.inl (.inl upd_same)) (dps_same (same_upd (Same.free e hp)) _ _ (dps_rep1 h1 k))
      · have hk2 : k = 0 ∨ k = 1 := by omega
        rcases hk2 with rfl | rfl
        · exact .inr ⟨a, _, [v1], rfl, rfl, hsH, by simp, .inr ⟨rfl, fun p hp => q _ _ _ (Step.new (o := .tup _) e hp) (.tup (.inl (.inl upd_same)) .nil)⟩⟩
        · exact .inr ⟨a, _, [v1], rfl, rfl, hsH, by simp, .inl ⟨rfl, q _ B H (Step.refl e) (.tup hs (.cons h1 .nil))⟩⟩
/-- tuple(list) -/
theorem ev_tupleOf {ds : List PyData} (h : EvS K te τ (.list ds)) : EvX K (tThen te (kTup K)) τ (.dt (.tuple ds)) := fun σ B H hs e Q q => h σ B H hs e _ fun v B1 H1 s1 d1 => by
  have d1 : Dd K B1 v (.list ds) := d1
  cases d1 with
  | lst h1 a1 => exact .inl ⟨_, _, rfl, SqL.of (s1.i _ _ h1), fun p hp => q _ _ _ (s1.trans (Step.new (o := .tup _) s1.i hp)) (.tup (.inl (.inl upd_same)) (dps_same (same_upd (Same.free s1.i hp)) _ _ a1))⟩
/-- zip of a list and a tuple, as long -/
theorem ie_zipM {xs ys : List PyData} (h1 : EvS K ta τ (.list xs)) (h2 : EvS K tb τ (.tuple ys)) (hl : xs.length = ys.length) : IterE K (iZipM K (tCons ta (tCons tb tNil))) τ (List.zipWith (fun x y => PyData.tuple [x, y]) xs ys) := fun σ B H hs e R q =>
  h1 σ B H hs e _ fun v B1 H1 s1 d1 => h2 σ B1 H1 (hs.same s1.b) s1.i _ fun u B2 H2 s2 d2 => by
    have d1 : Dd K B1 v (.list xs) := d1
    have d1 := dp_same s2.b _ _ d1
    have d2 : Dd K B2 u (.tuple ys) := d2
    cases d1 with
    | @lst a vs _ hv ha =>
      cases d2 with
      | @tup b us _ hu hb =>
        have l1 := dps_len ha
        have l2 := dps_len hb
        refine ⟨a, b, vs, us, rfl, SqL.of (s2.i _ _ hv), st_same s2.i hu, q _ B2 H2 (s1.trans s2) ⟨fun i H e hi => ?_, fun H e => ?_, fun i H x H' y e hx hy B3 e1 e2 => ?_⟩⟩
        · rw [List.length_zipWith] at hi
          obtain ⟨v1, hv1, _⟩ := dps_get ha (List.getElem?_eq_getElem (show i < xs.length by omega))
          obtain ⟨u1, hu1, _⟩ := dps_get hb (List.getElem?_eq_getElem (show i < ys.length by omega))
          exact ⟨vs, us, v1, u1, SqL.of (e _ _ hv), st_same e hu, hv1, hu1⟩
        · refine ⟨vs, us, SqL.of (e _ _ hv), st_same e hu, ?_, ?_, ?_⟩ <;> rw [List.length_zipWith] <;> omega
        · obtain ⟨T1, x1, y1, rfl, hT, rfl, g1, g2⟩ := hy
          rw [List.getElem?_zipWith] at hx
          cases ex : xs[i]? with
          | none => rw [ex] at hx; simp at hx
          | some dx =>
            cases ey : ys[i]? with
            | none => rw [ex, ey] at hx; simp at hx
            | some dy =>
              rw [ex, ey] at hx
              have hx2 : PyData.tuple [dx, dy] = y := Option.some.inj hx
              subst hx2
              obtain ⟨v1, hv1, k1⟩ := dps_get ha ex
              obtain ⟨u1, hu1, k2⟩ := dps_get hb ey
              have z1 := g1 vs (SqL.of (e _ _ hv))
              have z2 := g2 us (st_same e hu)
              rw [hv1] at z1
              rw [hu1] at z2
              cases z1
              cases z2
              have hB3 : B3 T1 = none := Same.free e2 hT
              exact ⟨_, Step.new (o := .tup _) e2 hT, .tup (.inl (.inl upd_same)) (.cons (dp_same (e1.trans (same_upd hB3)) _ _ k1) (.cons (dp_same (e1.trans (same_upd hB3)) _ _ k2) .nil))⟩
end
end Sw
/-! part SwS -/
set_option Elab.async false
set_option linter.all false
set_option maxRecDepth 100000
set_option maxHeartbeats 4000000
namespace Sw
/-! ## the mathematics of two scripts read side by side -/
abbrev RP := List Nat × List Nat
def rdT : List RP → List (List Nat) → List Nat → List (List Nat) × List Nat
  | s :: sc, p :: ps, t => ((run s.1 s.2 p t).1 :: (rdT sc ps (run s.1 s.2 p t).2).1, (rdT sc ps (run s.1 s.2 p t).2).2)
  | [], _, t => ([], t)
  | _ :: _, [], t => ([], t)
def full : List RP → List (List Nat) → List Nat → List Nat
  | s :: sc, p :: ps, t => full sc ps ((run s.1 s.2 p t).2 ++ (run s.1 s.2 p t).1)
  | [], _, t => t
  | _ :: _, [], t => t
def runS : List RP → List Nat → List Nat
  | [], t => t
  | s :: sc, t => runS sc (result s.1 s.2 t)
def PreS : List RP → List (List Nat) → Prop
  | s :: sc, p :: ps => Pre s.1 p ∧ PreS sc ps
  | [], [] => True
  | [], _ :: _ => False
  | _ :: _, [] => False
def RpS (sc : List RP) : Prop := sc.length ≤ 3 ∧ ∀ s ∈ sc, Rp s.1 s.2
theorem preS_len : ∀ {sc : List RP} {ps : List (List Nat)}, PreS sc ps → ps.length = sc.length
  | [], [], _ => rfl
  | s :: sc, p :: ps, h => by rw [List.length_cons, List.length_cons, preS_len h.2]
  | [], _ :: _, h => h.elim
  | _ :: _, [], h => h.elim
theorem run_append {old new : List Nat} : ∀ (t u p : List Nat), run old new p (t ++ u) = ((run old new (run old new p t).1 u).1, (run old new p t).2 ++ (run old new (run old new p t).1 u).2)
  | [], u, p => rfl
  | c :: t, u, p => by
    show ((run old new (rds old new p c).1 (t ++ u)).1, (rds old new p c).2 ++ (run old new (rds old new p c).1 (t ++ u)).2) = _
    rw [run_append t u _]
    show (_, (rds old new p c).2 ++ ((run old new (rds old new p c).1 t).2 ++ _)) = (_, (rds old new p c).2 ++ (run old new (rds old new p c).1 t).2 ++ _)
    rw [List.append_assoc]
    rfl
theorem full_app : ∀ (sc : List RP) (ps : List (List Nat)) (t u : List Nat), full sc ps (t ++ u) = (rdT sc ps t).2 ++ full sc (rdT sc ps t).1 u
  | [], ps, t, u => rfl
  | _ :: _, [], t, u => rfl
  | s :: sc, p :: ps, t, u => by
    show full sc ps ((run s.1 s.2 p (t ++ u)).2 ++ (run s.1 s.2 p (t ++ u)).1) = _
    rw [run_append]
    show full sc ps ((run s.1 s.2 p t).2 ++ (run s.1 s.2 (run s.1 s.2 p t).1 u).2 ++ (run s.1 s.2 (run s.1 s.2 p t).1 u).1) = _
    rw [List.append_assoc, full_app sc ps]
    rfl
theorem rdT_app : ∀ (sc : List RP) (ps : List (List Nat)) (t u : List Nat), rdT sc ps (t ++ u) = ((rdT sc (rdT sc ps t).1 u).1, (rdT sc ps t).2 ++ (rdT sc (rdT sc ps t).1 u).2)
  | [], ps, t, u => rfl
  | _ :: _, [], t, u => rfl
  | s :: sc, p :: ps, t, u => by
    show ((run s.1 s.2 p (t ++ u)).1 :: (rdT sc ps (run s.1 s.2 p (t ++ u)).2).1, (rdT sc ps (run s.1 s.2 p (t ++ u)).2).2) = _
    rw [run_append]
    show ((run s.1 s.2 (run s.1 s.2 p t).1 u).1 :: (rdT sc ps ((run s.1 s.2 p t).2 ++ (run s.1 s.2 (run s.1 s.2 p t).1 u).2)).1, (rdT sc ps ((run s.1 s.2 p t).2 ++ (run s.1 s.2 (run s.1 s.2 p t).1 u).2)).2) = _
    rw [rdT_app sc ps]
    rfl
def initS (sc : List RP) : List (List Nat) := List.replicate sc.length []
theorem preS_init : ∀ {sc : List RP}, (∀ s ∈ sc, Rp s.1 s.2) → PreS sc (initS sc)
  | [], _ => trivial
  | s :: sc, h => ⟨pre_nil (h s List.mem_cons_self).o1, preS_init fun x hx => h x (List.mem_cons_of_mem _ hx)⟩
theorem preS_rdT : ∀ {sc : List RP} {ps : List (List Nat)} (t : List Nat), (∀ s ∈ sc, Rp s.1 s.2) → PreS sc ps → PreS sc (rdT sc ps t).1
  | [], [], t, _, _ => trivial
  | [], _ :: _, t, _, h => h.elim
  | _ :: _, [], t, _, h => h.elim
  | s :: sc, p :: ps, t, hr, h => ⟨run_pre (hr s List.mem_cons_self).o1 t p h.1, preS_rdT _ (fun x hx => hr x (List.mem_cons_of_mem _ hx)) h.2⟩
theorem full_init : ∀ {sc : List RP} (t : List Nat), (∀ s ∈ sc, Rp s.1 s.2) → full sc (initS sc) t = runS sc t
  | [], t, _ => rfl
  | s :: sc, t, h => by
    have hr := h s List.mem_cons_self
    show full sc (initS sc) ((run s.1 s.2 [] t).2 ++ (run s.1 s.2 [] t).1) = runS sc (result s.1 s.2 t)
    have e := run_rsl (new := s.2) hr.o1 t [] (pre_nil hr.o1)
    rw [← e]
    exact full_init _ fun x hx => h x (List.mem_cons_of_mem _ hx)
/-! sizes -/
theorem run_len {old new p t : List Nat} (hr : Rp old new) (hp : Pre old p) : (run old new p t).2.length + (run old new p t).1.length + 1 ≤ (t.length + 1) * 20 := by
  have e := congrArg List.length (run_rsl (new := new) hr.o1 t p hp)
  have h1 := rsl_len old new 0 (p ++ t)
  have h2 := hr.n4
  have h3 := hp.2
  have h4 := hr.o4
  rw [List.length_append] at e
  have h5 : (p ++ t).length * (new.length + 1) ≤ (p ++ t).length * 5 := Nat.mul_le_mul_left _ (by omega)
  have h6 : (p ++ t).length = p.length + t.length := List.length_append
  omega
theorem rdT_len : ∀ {sc : List RP} {ps : List (List Nat)} (t : List Nat), (∀ s ∈ sc, Rp s.1 s.2) → PreS sc ps → (rdT sc ps t).2.length + 1 ≤ (t.length + 1) * 20 ^ sc.length
  | [], [], t, _, _ => by show t.length + 1 ≤ (t.length + 1) * 20 ^ 0; omega
  | [], _ :: _, t, _, h => h.elim
  | _ :: _, [], t, _, h => h.elim
  | s :: sc, p :: ps, t, hr, h => by
    have h1 := run_len (t := t) (hr s List.mem_cons_self) h.1
    have h2 := rdT_len (run s.1 s.2 p t).2 (fun x hx => hr x (List.mem_cons_of_mem _ hx)) h.2
    show (rdT sc ps (run s.1 s.2 p t).2).2.length + 1 ≤ _
    refine Nat.le_trans h2 ?_
    rw [List.length_cons, Nat.pow_succ, Nat.mul_comm (20 ^ sc.length) 20, ← Nat.mul_assoc]
    exact Nat.mul_le_mul_right _ (by omega)
theorem full_len : ∀ {sc : List RP} {ps : List (List Nat)} (t : List Nat), (∀ s ∈ sc, Rp s.1 s.2) → PreS sc ps → (full sc ps t).length + 1 ≤ (t.length + 1) * 20 ^ sc.length
  | [], [], t, _, _ => by show t.length + 1 ≤ (t.length + 1) * 20 ^ 0; omega
  | [], _ :: _, t, _, h => h.elim
  | _ :: _, [], t, _, h => h.elim
  | s :: sc, p :: ps, t, hr, h => by
    have h1 := run_len (t := t) (hr s List.mem_cons_self) h.1
    have h2 := full_len ((run s.1 s.2 p t).2 ++ (run s.1 s.2 p t).1) (fun x hx => hr x (List.mem_cons_of_mem _ hx)) h.2
    show (full sc ps ((run s.1 s.2 p t).2 ++ (run s.1 s.2 p t).1)).length + 1 ≤ _
    refine Nat.le_trans h2 ?_
    rw [List.length_cons, Nat.pow_succ, Nat.mul_comm (20 ^ sc.length) 20, ← Nat.mul_assoc]
    refine Nat.mul_le_mul_right _ ?_
    rw [List.length_append]
    omega
theorem pow_small {k : Nat} (h : k ≤ 3) : 20 ^ k ≤ 8000 := by
  match k, h with
  | 0, _ => decide
  | 1, _ => decide
  | 2, _ => decide
  | 3, _ => decide
/-! what both have in common is cut off -/
def cut : List Nat → List Nat → List Nat × List Nat
  | x :: a, y :: b => if x = y then cut a b else (x :: a, y :: b)
  | [], b => ([], b)
  | a, [] => (a, [])
theorem cut_app : ∀ (a b x y : List Nat), cut ((cut a b).1 ++ x) ((cut a b).2 ++ y) = cut (a ++ x) (b ++ y)
  | [], b, x, y => by simp [cut]
  | _ :: _, [], x, y => by simp [cut]
  | c :: a, d :: b, x, y => by
    by_cases h : c = d
    · subst h
      have e : cut (c :: a) (c :: b) = cut a b := by simp [cut]
      have e2 : cut (c :: a ++ x) (c :: b ++ y) = cut (a ++ x) (b ++ y) := by simp [cut]
      rw [e, e2, cut_app a b x y]
    · have e : cut (c :: a) (d :: b) = (c :: a, d :: b) := by simp [cut, h]
      rw [e]
theorem cut_eq : ∀ (a b x y : List Nat), (cut a b).1 ++ x = (cut a b).2 ++ y ↔ a ++ x = b ++ y
  | [], b, x, y => by simp [cut]
  | _ :: _, [], x, y => by simp [cut]
  | c :: a, d :: b, x, y => by
    by_cases h : c = d
    · subst h
      have e : cut (c :: a) (c :: b) = cut a b := by simp [cut]
      rw [e, cut_eq a b x y]
      simp
    · have e : cut (c :: a) (d :: b) = (c :: a, d :: b) := by simp [cut, h]
      rw [e]
theorem cut_or : ∀ (a b x y : List Nat), (cut a b).1 ++ x = (cut a b).2 ++ y → (cut a b).1 = [] ∨ (cut a b).2 = []
  | [], b, x, y, _ => .inl (by simp [cut])
  | _ :: _, [], x, y, _ => .inr (by simp [cut])
  | c :: a, d :: b, x, y, h => by
    by_cases z : c = d
    · subst z
      have e : cut (c :: a) (c :: b) = cut a b := by simp [cut]
      rw [e] at h ⊢
      exact cut_or a b x y h
    · have e : cut (c :: a) (d :: b) = (c :: a, d :: b) := by simp [cut, z]
      rw [e] at h
      simp [z] at h
theorem cut_le (a b : List Nat) : (cut a b).1.length ≤ a.length ∧ (cut a b).2.length ≤ b.length := by
  induction a generalizing b with
  | nil => simp [cut]
  | cons c a ih =>
    cases b with
    | nil => simp [cut]
    | cons d b =>
      by_cases z : c = d
      · subst z
        have e : cut (c :: a) (c :: b) = cut a b := by simp [cut]
        rw [e]
        have := ih b
        rw [List.length_cons, List.length_cons]
        omega
      · have e : cut (c :: a) (d :: b) = (c :: a, d :: b) := by simp [cut, z]
        rw [e]
        exact ⟨Nat.le_refl _, Nat.le_refl _⟩
theorem abc_cut {a b : List Nat} (ha : abc a) (hb : abc b) : abc (cut a b).1 ∧ abc (cut a b).2 := by
  induction a generalizing b with
  | nil => simp [cut]; exact ⟨abc_nil, hb⟩
  | cons c a ih =>
    cases b with
    | nil => simp [cut]; exact ⟨ha, abc_nil⟩
    | cons d b =>
      by_cases z : c = d
      · subst z
        have e : cut (c :: a) (c :: b) = cut a b := by simp [cut]
        rw [e]
        exact ih (fun x hx => ha x (List.mem_cons_of_mem _ hx)) (fun x hx => hb x (List.mem_cons_of_mem _ hx))
      · have e : cut (c :: a) (d :: b) = (c :: a, d :: b) := by simp [cut, z]
        rw [e]
        exact ⟨ha, hb⟩
/-! the state -/
abbrev PST := List (List Nat) × List (List Nat) × List Nat × List Nat
def stP (one oth : List RP) (u : List Nat) : PST := ((rdT one (initS one) u).1, (rdT oth (initS oth) u).1, cut (rdT one (initS one) u).2 (rdT oth (initS oth) u).2)
def gdP (one oth : List RP) (s : PST) : Prop := s.2.2.1 ++ full one s.1 [] ≠ s.2.2.2 ++ full oth s.2.1 []
theorem stP_app (one oth : List RP) (u : List Nat) (c : Nat) : stP one oth (u ++ [c]) = ((rdT one (stP one oth u).1 [c]).1, (rdT oth (stP one oth u).2.1 [c]).1, cut ((stP one oth u).2.2.1 ++ (rdT one (stP one oth u).1 [c]).2) ((stP one oth u).2.2.2 ++ (rdT oth (stP one oth u).2.1 [c]).2)) := by
  unfold stP
  rw [rdT_app one, rdT_app oth, cut_app]
theorem stP_nd {one oth : List RP} {u v : List Nat} {c : Nat} (h : stP one oth u = stP one oth v) : stP one oth (u ++ [c]) = stP one oth (v ++ [c]) := by rw [stP_app, stP_app, h]
theorem gdP_iff {one oth : List RP} (h1 : ∀ s ∈ one, Rp s.1 s.2) (h2 : ∀ s ∈ oth, Rp s.1 s.2) (u : List Nat) : gdP one oth (stP one oth u) ↔ runS one u ≠ runS oth u := by
  unfold gdP stP
  have e1 := full_app one (initS one) u []
  have e2 := full_app oth (initS oth) u []
  rw [List.append_nil, full_init u h1] at e1
  rw [List.append_nil, full_init u h2] at e2
  rw [e1, e2]
  exact not_congr (cut_eq _ _ _ _)
/-- a state that does not part is known by what is pending -/
theorem stP_det {one oth : List RP} {u v : List Nat} (hu : ¬ gdP one oth (stP one oth u)) (hv : ¬ gdP one oth (stP one oth v)) (e1 : (stP one oth u).1 = (stP one oth v).1) (e2 : (stP one oth u).2.1 = (stP one oth v).2.1) : stP one oth u = stP one oth v := by
  have key : ∀ (w : List Nat), ¬ gdP one oth (stP one oth w) → (stP one oth w).2.2.1 ++ full one (stP one oth w).1 [] = (stP one oth w).2.2.2 ++ full oth (stP one oth w).2.1 [] ∧ ((stP one oth w).2.2.1 = [] ∨ (stP one oth w).2.2.2 = []) := fun w hw => by
    have h : (stP one oth w).2.2.1 ++ full one (stP one oth w).1 [] = (stP one oth w).2.2.2 ++ full oth (stP one oth w).2.1 [] := Classical.not_not.mp hw
    exact ⟨h, cut_or _ _ _ _ h⟩
  obtain ⟨a1, a2⟩ := key u hu
  obtain ⟨b1, b2⟩ := key v hv
  rw [← e1, ← e2] at b1
  generalize full one (stP one oth u).1 [] = r1 at a1 b1
  generalize full oth (stP one oth u).2.1 [] = r2 at a1 b1
  have e3 : (stP one oth u).2.2.1 = (stP one oth v).2.2.1 ∧ (stP one oth u).2.2.2 = (stP one oth v).2.2.2 := by
    generalize (stP one oth u).2.2.1 = x at *
    generalize (stP one oth u).2.2.2 = y at *
    generalize (stP one oth v).2.2.1 = x' at *
    generalize (stP one oth v).2.2.2 = y' at *
    have l1 := congrArg List.length a1
    have l2 := congrArg List.length b1
    rw [List.length_append, List.length_append] at l1 l2
    rcases Nat.le_total r1.length r2.length with z | z
    · have hy : y = [] := by
        rcases a2 with q | q
        · rw [q, List.length_nil] at l1; exact List.length_eq_zero_iff.mp (by omega)
        · exact q
      have hy' : y' = [] := by
        rcases b2 with q | q
        · rw [q, List.length_nil] at l2; exact List.length_eq_zero_iff.mp (by omega)
        · exact q
      subst hy hy'
      rw [← b1] at a1
      exact ⟨List.append_cancel_right a1, rfl⟩
    · have hx : x = [] := by
        rcases a2 with q | q
        · exact q
        · rw [q, List.length_nil] at l1; exact List.length_eq_zero_iff.mp (by omega)
      have hx' : x' = [] := by
        rcases b2 with q | q
        · exact q
        · rw [q, List.length_nil] at l2; exact List.length_eq_zero_iff.mp (by omega)
      subst hx hx'
      rw [a1] at b1
      exact ⟨rfl, List.append_cancel_right b1⟩
  exact Prod.ext e1 (Prod.ext e2 (Prod.ext e3.1 e3.2))
/-! how many -/
def allL : List RP → List (List (List Nat))
  | [] => [[]]
  | s :: sc => (List.range 4).flatMap fun i => (allL sc).map fun l => s.1.take i :: l
theorem fm_len {α β : Type} {f : α → List β} {k : Nat} : ∀ (l : List α), (∀ x ∈ l, (f x).length = k) → (l.flatMap f).length = l.length * k
  | [], _ => by simp
  | x :: l, h => by
    rw [List.flatMap_cons, List.length_append, fm_len l (fun y hy => h y (List.mem_cons_of_mem _ hy)), h x List.mem_cons_self, List.length_cons, Nat.succ_mul]
    omega
theorem allL_len : ∀ (sc : List RP), (allL sc).length = 4 ^ sc.length
  | [] => rfl
  | s :: sc => by
    unfold allL
    rw [fm_len (k := 4 ^ sc.length) _ (fun i _ => by rw [List.length_map, allL_len sc]), List.length_range, List.length_cons, Nat.pow_succ]
    omega
theorem allL_mem : ∀ {sc : List RP} {ps : List (List Nat)}, (∀ s ∈ sc, Rp s.1 s.2) → PreS sc ps → ps ∈ allL sc
  | [], [], _, _ => List.mem_singleton.mpr rfl
  | [], _ :: _, _, h => h.elim
  | _ :: _, [], _, h => h.elim
  | s :: sc, p :: ps, hr, h => by
    have h1 := (hr s List.mem_cons_self).o4
    have h2 := h.1.2
    refine List.mem_flatMap.mpr ⟨p.length, List.mem_range.mpr (by omega), List.mem_map.mpr ⟨ps, allL_mem (fun x hx => hr x (List.mem_cons_of_mem _ hx)) h.2, ?_⟩⟩
    rw [← h.1.1]
def allP (one oth : List RP) : List (List (List Nat) × List (List Nat)) := (allL one).flatMap fun l => (allL oth).map fun r => (l, r)
theorem allP_len {one oth : List RP} (h1 : one.length ≤ 3) (h2 : oth.length ≤ 3) : (allP one oth).length ≤ 4096 := by
  have e : (allP one oth).length = 4 ^ one.length * 4 ^ oth.length := by
    unfold allP
    rw [fm_len (k := 4 ^ oth.length) _ (fun i _ => by rw [List.length_map, allL_len]), allL_len]
  have p3 : ∀ {k : Nat}, k ≤ 3 → 4 ^ k ≤ 64 := fun {k} h => by
    match k, h with
    | 0, _ => decide
    | 1, _ => decide
    | 2, _ => decide
    | 3, _ => decide
  rw [e]
  exact Nat.mul_le_mul (p3 h1) (p3 h2)
theorem A_len {one oth : List RP} (h1 : RpS one) (h2 : RpS oth) {A : List (List Nat)} (hn : (A.map (stP one oth)).Nodup) (hb : ∀ t ∈ A, ¬ gdP one oth (stP one oth t)) : A.length ≤ 4096 := by
  have hd : (A.map fun t => ((stP one oth t).1, (stP one oth t).2.1)).Nodup := by
    rw [List.Nodup, List.pairwise_map] at hn ⊢
    exact hn.imp_of_mem fun {a b} ha hb' hab e => hab (stP_det (hb a ha) (hb b hb') (Prod.mk.inj e).1 (Prod.mk.inj e).2)
  have h := nd_le _ (allP one oth) hd fun x hx => by
    obtain ⟨t, _, rfl⟩ := List.mem_map.mp hx
    exact List.mem_flatMap.mpr ⟨_, allL_mem h1.2 (preS_rdT t h1.2 (preS_init h1.2)), List.mem_map.mpr ⟨_, allL_mem h2.2 (preS_rdT t h2.2 (preS_init h2.2)), rfl⟩⟩
  rw [List.length_map] at h
  exact Nat.le_trans h (allP_len h1.1 h2.1)
end Sw
/-! part P5 -/
set_option Elab.async false
set_option linter.all false
set_option maxRecDepth 100000
set_option maxHeartbeats 4000000
namespace Sw
open PySem PySem.Spec L2
local macro_rules | `(tactic| walk_at "sz") => `(tactic| first | assumption | omega | (have hsz := szl; omega) | (have hsz := szl; simp only [List.length_append, List.length_cons, List.length_nil, List.length_take, List.length_drop, List.length_reverse, List.length_map, List.length_range]; omega) | decide)
local macro_rules | `(tactic| walk_at "evF") => `(tactic| fail)
local macro_rules | `(tactic| walk_at "ev1") => `(tactic| first
  | ((with_reducible apply ev_var); exact rfl) | with_reducible exact ev_int | with_reducible exact ev_none | with_reducible exact ev_bool | with_reducible exact ev_str
  | with_reducible exact ea_nil | with_reducible apply ea_cons | with_reducible exact eo_none | with_reducible apply eo_some
  | with_reducible exact et_yes | with_reducible apply et_B | with_reducible apply et_test | with_reducible apply et_not | with_reducible apply et_and | with_reducible apply et_or
  | (refine fun (_ : (_ : Bool) = true) => ?_) | (refine fun (_ : (_ : Bool) = false) => ?_)
  | walk_at "evF"
  | with_reducible apply ev_isi | with_reducible apply ev_op | with_reducible apply ev_cb | with_reducible apply ev_sl | with_reducible apply ev_un | with_reducible apply ev_notV
  | with_reducible apply ev_tup | with_reducible apply ev_lst | ((with_reducible apply EvX.frz); with_reducible apply ev_lst)
  | with_reducible apply ev_revL | with_reducible apply ev_revT | with_reducible apply ev_chain
  | with_reducible exact od_add_int | with_reducible exact od_sub | with_reducible exact od_lt | with_reducible exact od_le | with_reducible exact od_gt | with_reducible exact od_ge | with_reducible exact od_eq_int | with_reducible exact od_ne_int
  | with_reducible exact od_eqT | with_reducible exact od_neT | with_reducible exact od_ltT | with_reducible exact od_eq_bool | with_reducible exact od_ne_bool | with_reducible exact od_isN | with_reducible exact od_ntN | with_reducible exact od_isB | with_reducible exact od_ntB
  | with_reducible refine od_addT ?_ | ((with_reducible apply od_ix_tup); exact rfl) | ((with_reducible apply od_ix_list); exact rfl)
  | with_reducible exact cd_lenL | with_reducible exact cd_lenU | with_reducible exact cd_lenS | with_reducible refine cd_lenT ?_ | with_reducible refine cd_lenZ ?_ | with_reducible exact cd_max2 | with_reducible exact cd_min2 | with_reducible exact cd_all | with_reducible exact cd_any
  | refine sd_Tn rfl (Int.natCast_add _ _).symm ?_ | refine sd_Tn rfl rfl ?_ | refine sd_TLn rfl ?_ | refine sd_TRn rfl ?_
  | with_reducible refine od_mulT ?_ ?_ ?_ | with_reducible refine OpD.frz (od_mul_list ?_ ?_ ?_)
  | (intro z h; cases h; done) | walk_at "sz")
local macro_rules | `(tactic| walk_at "ev") => `(tactic| repeat' walk_at "ev1")
/-! ## scripts.py: reading -/
abbrev rpD (s : RP) : PyData := rep s.1 s.2
def F_read_text (ds : List PyData) (sd : SD) : Prop := ∃ sc ps text, ds = [.list (sc.map rpD), .tuple (ps.map T), T text] ∧ RpS sc ∧ PreS sc ps ∧ text.length ≤ 10 ∧ sd = .dt (.tuple [.tuple ((rdT sc ps text).1.map T), T (rdT sc ps text).2])
def F_rest_of (ds : List PyData) (sd : SD) : Prop := ∃ sc ps, ds = [.list (sc.map rpD), .tuple (ps.map T)] ∧ RpS sc ∧ PreS sc ps ∧ sd = .dt (T (full sc ps []))
def F_cut_both (ds : List PyData) (sd : SD) : Prop := ∃ a b, ds = [T a, T b] ∧ Fit a ∧ Fit b ∧ sd = .dt (.tuple [T (cut a b).1, T (cut a b).2])
theorem len_read_text : ∀ ds sd, F_read_text ds sd → ds.length = 3 := by rintro _ _ ⟨_, _, _, rfl, _⟩; rfl
theorem len_rest_of : ∀ ds sd, F_rest_of ds sd → ds.length = 2 := by rintro _ _ ⟨_, _, rfl, _⟩; rfl
theorem len_cut_both : ∀ ds sd, F_cut_both ds sd → ds.length = 2 := by rintro _ _ ⟨_, _, rfl, _⟩; rfl
theorem preS_get : ∀ {sc : List RP} {ps : List (List Nat)} {i : Nat} {s : RP} {p : List Nat}, PreS sc ps → sc[i]? = some s → ps[i]? = some p → Pre s.1 p
  | [], _, i, s, p, h, h1, h2 => by simp at h1
  | _ :: _, [], i, s, p, h, h1, h2 => by simp at h2
  | s :: sc, p :: ps, 0, s', p', h, h1, h2 => by cases h1; cases h2; exact h.1
  | s :: sc, p :: ps, i + 1, s', p', h, h1, h2 => preS_get h.2 (by simpa using h1) (by simpa using h2)
theorem drop_get' {α : Type} {l : List α} {i : Nat} {c : α} (h : l[i]? = some c) : l.drop i = c :: l.drop (i + 1) := by
  obtain ⟨hl, e⟩ := List.getElem?_eq_some_iff.mp h
  rw [List.drop_eq_getElem_cons hl, e]
theorem zw_get {sc : List RP} {ps : List (List Nat)} {i : Nat} {x : PyData} (h : (List.zipWith (fun x y => PyData.tuple [x, y]) (sc.map rpD) (ps.map T))[i]? = some x) : ∃ s p, sc[i]? = some s ∧ ps[i]? = some p ∧ x = .tuple [rpD s, T p] := by
  rw [List.getElem?_zipWith, List.getElem?_map, List.getElem?_map] at h
  cases e1 : sc[i]? with
  | none => rw [e1] at h; simp at h
  | some s =>
    cases e2 : ps[i]? with
    | none => rw [e1, e2] at h; simp at h
    | some p =>
      rw [e1, e2] at h
      exact ⟨s, p, rfl, rfl, (Option.some.inj h).symm⟩
theorem run_cons (old new p t : List Nat) (c : Nat) : run old new p (c :: t) = ((run old new (rds old new p c).1 t).1, (rds old new p c).2 ++ (run old new (rds old new p c).1 t).2) := rfl
theorem mapT_snoc (pre : List (List Nat)) (l : List Nat) : (pre ++ [l]).map T = pre.map T ++ [T l] := by rw [List.map_append]; rfl
def t_read_text (K : PySem.W.Frag) (W : WX) : TS :=
  (tSeq (tAsg (tLst tNil) (gName 3))
    (tSeq (tFor (iZipM K (tCons (tVar 0) (tCons (tVar 1) tNil))) (gTup K 2 (gCons (gName 4) (gCons (gName 5) gNil))) (tSeq (tAsg (tC (.str (tx []))) (gName 6))
    (tSeq (tFor (iStr (tVar 2)) (gName 7) (tSeq (tAsg (tCallS (spD K F_read_sign) (WE W) (tCons (tVar 4) (tCons (tVar 5) (tCons (tVar 7) tNil)))) (gTup K 2 (gCons (gName 5) (gCons (gName 8) gNil))))
    (tAsg (tOp (rAddU K) (tVar 6) (tVar 8)) (gName 6))))
    (tSeq (tDrop (tBM K "list" rAppend (tVar 3) (tCons (tVar 5) tNil)))
    (tAsg (tVar 6) (gName 2))))))
    (tRet (tTup (tCons (tThen (tVar 3) (kTup K)) (tCons (tVar 2) tNil))))))
def t_rest_of (K : PySem.W.Frag) (W : WX) : TS :=
  (tSeq (tAsg (tC (.str (tx []))) (gName 2))
    (tSeq (tFor (iZipM K (tCons (tVar 0) (tCons (tVar 1) tNil))) (gTup K 2 (gCons (gName 3) (gCons (gName 4) gNil))) (tSeq (tAsg (tC (.str (tx []))) (gName 5))
    (tSeq (tFor (iStr (tVar 2)) (gName 6) (tSeq (tAsg (tCallS (spD K F_read_sign) (WE W) (tCons (tVar 3) (tCons (tVar 4) (tCons (tVar 6) tNil)))) (gTup K 2 (gCons (gName 4) (gCons (gName 7) gNil))))
    (tAsg (tOp (rAddU K) (tVar 5) (tVar 7)) (gName 5))))
    (tAsg (tOp (rAddU K) (tVar 5) (tVar 4)) (gName 2)))))
    (tRet (tVar 2))))
def t_cut_both (K : PySem.W.Frag) (W : WX) : TS :=
  (tSeq (tAsg (tC (.int 0)) (gName 2))
    (tSeq (tWhile (tAnd (tTest (tOp rLtU (tVar 2) (tCB rMin2U (tCons (tCB (rLenU K) (tCons (tVar 0) tNil)) (tCons (tCB (rLenU K) (tCons (tVar 1) tNil)) tNil))))) (tTest (tOp (rEqU K) (tOp (rIx K) (tVar 0) (tVar 2)) (tOp (rIx K) (tVar 1) (tVar 2))))) (tAsg (tOp (rAddU K) (tVar 2) (tC (.int 1))) (gName 2)))
    (tRet (tTup (tCons (tSl (rSlU K) (tVar 0) (tPart (tVar 2)) tNoPart) (tCons (tSl (rSlU K) (tVar 1) (tPart (tVar 2)) tNoPart) tNil))))))
section
variable {K : PySem.W.Frag} {W : WX} {w : World} {ds : List PyData} {sd : SD} {τ : Tau} {ta tb tc : TE} {E : St → XK}
theorem ws_read_text (h : F_read_text ds sd) : WS K (t_read_text K W) (startD 9 ds) (retE W sd) := by
  obtain ⟨sc, ps, text, rfl, hr, hp, hl, rfl⟩ := h
  have hpl := preS_len hp
  have hs3 := hr.1
  show WS K (t_read_text K W) [.dt (.list (sc.map rpD)), .dt (.tuple (ps.map T)), .dt (T text), .no, .no, .no, .no, .no, .no] _
  unfold t_read_text
  refine ws_seq (ws_set (ev_lst ea_nil (Nat.zero_le _)) ?_)
  refine ws_seq (ws_for (ie_zipM (ev_var rfl) (ev_var rfl) (by rw [List.length_map, List.length_map, hpl])) (fun i τ => ∃ (fd : List (List Nat)) (t : List Nat) (x4 x5 x6 x7 x8 : SD), τ = [.dt (.list (sc.map rpD)), .dt (.tuple (ps.map T)), .dt (T t), .ls (fd.map T), x4, x5, x6, x7, x8] ∧
      rdT sc ps text = (fd ++ (rdT (sc.drop i) (ps.drop i) t).1, (rdT (sc.drop i) (ps.drop i) t).2) ∧ t.length + 1 ≤ 11 * 20 ^ i ∧ fd.length = i) ⟨[], text, _, _, _, _, _, rfl, rfl, by omega, rfl⟩ ?_ ?_)
  · rintro i x τ hx ⟨fd, t, x4, x5, x6, x7, x8, rfl, he, htl, hfl⟩
    obtain ⟨s, p, hs, hpp, rfl⟩ := zw_get hx
    have hil := (List.getElem?_eq_some_iff.mp hs).1
    have hrs := hr.2 s (List.mem_of_getElem? hs)
    have hpre := preS_get hp hs hpp
    rw [drop_get' hs, drop_get' hpp] at he
    have h20 : 11 * 20 ^ i ≤ 4400 := by
      match i, (show i < 3 by omega) with
      | 0, _ => decide
      | 1, _ => decide
      | 2, _ => decide
    have hrl := run_len (t := t) hrs hpre
    refine ⟨_, tg_tup (tgs_cons tg_name (tgs_cons tg_name tgs_nil)) rfl, ?_⟩
    refine ws_seq (ws_set ev_str ?_)
    refine ws_mid (fun τ => ∃ (x7 x8 : SD), τ = [.dt (.list (sc.map rpD)), .dt (.tuple (ps.map T)), .dt (T t), .ls (fd.map T), .dt (rpD s), .dt (T (run s.1 s.2 p t).1), .dt (T (run s.1 s.2 p t).2), x7, x8]) ?_ ?_
    · refine ws_forN (in_str (ev_var rfl)) (fun k τ => ∃ (q o : List Nat) (x7 x8 : SD), τ = [.dt (.list (sc.map rpD)), .dt (.tuple (ps.map T)), .dt (T t), .ls (fd.map T), .dt (rpD s), .dt (T q), .dt (T o), x7, x8] ∧ run s.1 s.2 p t = ((run s.1 s.2 q (t.drop k)).1, o ++ (run s.1 s.2 q (t.drop k)).2) ∧ Pre s.1 q) ⟨p, [], _, _, rfl, rfl, hpre⟩ ?_ ?_
      · rintro k x τ hx ⟨q, o, y7, y8, rfl, hrun, hq⟩
        obtain ⟨c, hc, rfl⟩ := signs_get hx
        rw [drop_get hc, run_cons] at hrun
        have hql : q.length ≤ 1000 := by have := hq.2; have := hrs.o4; omega
        have hol : o.length + (rds s.1 s.2 q c).2.length ≤ 100000 := by
          have e := congrArg (fun z => z.2.length) hrun
          simp only [List.length_append] at e
          omega
        refine ⟨_, tg_name, ?_⟩
        refine ws_seq (ws_asg (e_read_sign (ev_var rfl) (ev_var rfl) (ev_var rfl) hrs hql) (tg_tup (tgs_cons tg_name (tgs_cons tg_name tgs_nil)) rfl) ?_)
        refine ws_set (ev_op (ev_var rfl) (ev_var rfl) (od_addT (by have := szl; omega))) ⟨(rds s.1 s.2 q c).1, o ++ (rds s.1 s.2 q c).2, .dt (T [c]), .dt (T (rds s.1 s.2 q c).2), rfl, ?_, pre_rds hrs.o1⟩
        rw [hrun, List.append_assoc]
      · rintro τ ⟨q, o, y7, y8, rfl, hrun, hq⟩
        rw [signs_len, List.drop_length] at hrun
        have e : run s.1 s.2 p t = (q, o) := by rw [hrun]; show (q, o ++ []) = (q, o); rw [List.append_nil]
        rw [e]
        exact ⟨_, _, rfl⟩
    · rintro τ ⟨y7, y8, rfl⟩
      refine ws_seq (ws_append (i := 3) rfl (ev_var rfl) (by rw [List.length_map]; have := szl; omega) ?_)
      refine ws_set (ev_var rfl) ⟨fd ++ [(run s.1 s.2 p t).1], (run s.1 s.2 p t).2, .dt (rpD s), .dt (T (run s.1 s.2 p t).1), .dt (T (run s.1 s.2 p t).2), y7, y8, ?_, ?_, ?_, by rw [List.length_append, List.length_singleton]; omega⟩
      · rw [mapT_snoc]; rfl
      · rw [he, List.append_assoc]; rfl
      · rw [Nat.pow_succ]; omega
  · rintro τ ⟨fd, t, x4, x5, x6, x7, x8, rfl, he, htl, hfl⟩
    have hlen : (List.zipWith (fun x y => PyData.tuple [x, y]) (sc.map rpD) (ps.map T)).length = sc.length := by rw [List.length_zipWith, List.length_map, List.length_map]; omega
    rw [hlen, List.drop_length] at he
    have he : rdT sc ps text = (fd ++ [], t) := he
    rw [List.append_nil] at he
    refine ws_frz 3 rfl (ws_ret (ev_tup (ea_cons (ev_tupleOf (ev_var rfl)) (ea_cons (ev_var rfl) ea_nil)) (by show 2 ≤ sizeLine; decide)) ?_)
    show _ = SD.dt (.tuple [.tuple ((rdT sc ps text).1.map T), T (rdT sc ps text).2])
    rw [he]
theorem e_read_text {sc : List RP} {ps : List (List Nat)} {text : List Nat} (ha : EvS K ta τ (.list (sc.map rpD))) (hb : EvS K tb τ (.tuple (ps.map T))) (hc : EvS K tc τ (T text)) (h1 : RpS sc) (h2 : PreS sc ps) (h3 : text.length ≤ 10) :
    EvX K (tCallS (spD K F_read_text) E (tCons ta (tCons tb (tCons tc tNil)))) τ (.dt (.tuple [.tuple ((rdT sc ps text).1.map T), T (rdT sc ps text).2])) :=
  ev_call (ea_cons ha (ea_cons hb (ea_cons hc ea_nil))) ⟨sc, ps, text, rfl, h1, h2, h3, rfl⟩
theorem ws_rest_of (h : F_rest_of ds sd) : WS K (t_rest_of K W) (startD 8 ds) (retE W sd) := by
  obtain ⟨sc, ps, rfl, hr, hp, rfl⟩ := h
  have hpl := preS_len hp
  have hs3 := hr.1
  show WS K (t_rest_of K W) [.dt (.list (sc.map rpD)), .dt (.tuple (ps.map T)), .no, .no, .no, .no, .no, .no] _
  unfold t_rest_of
  refine ws_seq (ws_set ev_str ?_)
  refine ws_seq (ws_for (ie_zipM (ev_var rfl) (ev_var rfl) (by rw [List.length_map, List.length_map, hpl])) (fun i τ => ∃ (t : List Nat) (x3 x4 x5 x6 x7 : SD), τ = [.dt (.list (sc.map rpD)), .dt (.tuple (ps.map T)), .dt (T t), x3, x4, x5, x6, x7] ∧
      full sc ps [] = full (sc.drop i) (ps.drop i) t ∧ t.length + 1 ≤ 20 ^ i) ⟨[], _, _, _, _, _, rfl, rfl, Nat.le_refl _⟩ ?_ ?_)
  · rintro i x τ hx ⟨t, x3, x4, x5, x6, x7, rfl, he, htl⟩
    obtain ⟨s, p, hs, hpp, rfl⟩ := zw_get hx
    have hil := (List.getElem?_eq_some_iff.mp hs).1
    have hrs := hr.2 s (List.mem_of_getElem? hs)
    have hpre := preS_get hp hs hpp
    rw [drop_get' hs, drop_get' hpp] at he
    have h20 : 20 ^ i ≤ 400 := by
      match i, (show i < 3 by omega) with
      | 0, _ => decide
      | 1, _ => decide
      | 2, _ => decide
    have hrl := run_len (t := t) hrs hpre
    refine ⟨_, tg_tup (tgs_cons tg_name (tgs_cons tg_name tgs_nil)) rfl, ?_⟩
    refine ws_seq (ws_set ev_str ?_)
    refine ws_mid (fun τ => ∃ (x6 x7 : SD), τ = [.dt (.list (sc.map rpD)), .dt (.tuple (ps.map T)), .dt (T t), .dt (rpD s), .dt (T (run s.1 s.2 p t).1), .dt (T (run s.1 s.2 p t).2), x6, x7]) ?_ ?_
    · refine ws_forN (in_str (ev_var rfl)) (fun k τ => ∃ (q o : List Nat) (x6 x7 : SD), τ = [.dt (.list (sc.map rpD)), .dt (.tuple (ps.map T)), .dt (T t), .dt (rpD s), .dt (T q), .dt (T o), x6, x7] ∧ run s.1 s.2 p t = ((run s.1 s.2 q (t.drop k)).1, o ++ (run s.1 s.2 q (t.drop k)).2) ∧ Pre s.1 q) ⟨p, [], _, _, rfl, rfl, hpre⟩ ?_ ?_
      · rintro k x τ hx ⟨q, o, y7, y8, rfl, hrun, hq⟩
        obtain ⟨c, hc, rfl⟩ := signs_get hx
        rw [drop_get hc, run_cons] at hrun
        have hql : q.length ≤ 1000 := by have := hq.2; have := hrs.o4; omega
        have hol : o.length + (rds s.1 s.2 q c).2.length ≤ 100000 := by
          have e := congrArg (fun z => z.2.length) hrun
          simp only [List.length_append] at e
          omega
        refine ⟨_, tg_name, ?_⟩
        refine ws_seq (ws_asg (e_read_sign (ev_var rfl) (ev_var rfl) (ev_var rfl) hrs hql) (tg_tup (tgs_cons tg_name (tgs_cons tg_name tgs_nil)) rfl) ?_)
        refine ws_set (ev_op (ev_var rfl) (ev_var rfl) (od_addT (by have := szl; omega))) ⟨(rds s.1 s.2 q c).1, o ++ (rds s.1 s.2 q c).2, .dt (T [c]), .dt (T (rds s.1 s.2 q c).2), rfl, ?_, pre_rds hrs.o1⟩
        rw [hrun, List.append_assoc]
      · rintro τ ⟨q, o, y7, y8, rfl, hrun, hq⟩
        rw [signs_len, List.drop_length] at hrun
        have e : run s.1 s.2 p t = (q, o) := by rw [hrun]; show (q, o ++ []) = (q, o); rw [List.append_nil]
        rw [e]
        exact ⟨_, _, rfl⟩
    · rintro τ ⟨y7, y8, rfl⟩
      refine ws_set (ev_op (ev_var rfl) (ev_var rfl) (od_addT (by have := szl; omega))) ⟨(run s.1 s.2 p t).2 ++ (run s.1 s.2 p t).1, .dt (rpD s), .dt (T (run s.1 s.2 p t).1), .dt (T (run s.1 s.2 p t).2), y7, y8, rfl, he, ?_⟩
      rw [Nat.pow_succ, List.length_append]; omega
  · rintro τ ⟨t, x3, x4, x5, x6, x7, rfl, he, htl⟩
    have hlen : (List.zipWith (fun x y => PyData.tuple [x, y]) (sc.map rpD) (ps.map T)).length = sc.length := by rw [List.length_zipWith, List.length_map, List.length_map]; omega
    rw [hlen, List.drop_length] at he
    have he : full sc ps [] = t := he
    refine ws_ret (ev_var rfl) ?_
    show SD.dt (T t) = SD.dt (T (full sc ps []))
    rw [he]
theorem e_rest_of {sc : List RP} {ps : List (List Nat)} (ha : EvS K ta τ (.list (sc.map rpD))) (hb : EvS K tb τ (.tuple (ps.map T))) (h1 : RpS sc) (h2 : PreS sc ps) : EvX K (tCallS (spD K F_rest_of) E (tCons ta (tCons tb tNil))) τ (.dt (T (full sc ps []))) :=
  ev_call (ea_cons ha (ea_cons hb ea_nil)) ⟨sc, ps, rfl, h1, h2, rfl⟩
theorem getD_some {l : List Nat} {i : Nat} (h : i < l.length) : l[i]? = some (l.getD i 0) := by
  rw [List.getD_eq_getElem?_getD, List.getElem?_eq_getElem h]; rfl
theorem atI_t {text : List Nat} {p : Nat} (h : p < text.length) : atI text (p : Int) = some (text.getD p 0) := by
  unfold atI ixN
  rw [if_pos (by omega), if_pos (by omega)]
  show text[(p : Int).toNat]? = _
  rw [Int.toNat_natCast]
  exact getD_some h
theorem ws_cut_both (h : F_cut_both ds sd) : WS K (t_cut_both K W) (startD 3 ds) (retE W sd) := by
  obtain ⟨a, b, rfl, ha, hb, rfl⟩ := h
  show WS K (t_cut_both K W) [.dt (T a), .dt (T b), .no] _
  unfold t_cut_both
  refine ws_seq (ws_set ev_int ?_)
  refine ws_seq (ws_while (fun m τ => ∃ s : Nat, τ = [.dt (T a), .dt (T b), .dt (.int (s : Int))] ∧ s ≤ a.length ∧ s ≤ b.length ∧ cut a b = cut (a.drop s) (b.drop s) ∧ m = a.length - s) a.length ⟨0, rfl, Nat.zero_le _, Nat.zero_le _, rfl, rfl⟩ ?_)
  rintro m τ ⟨s, rfl, h1, h2, he, rfl⟩
  have hret : (∀ e1 e2 : List Nat, cut (a.drop s) (b.drop s) = (a.drop s, b.drop s) → WS K (tRet (tTup (tCons (tSl (rSlU K) (tVar 0) (tPart (tVar 2)) tNoPart) (tCons (tSl (rSlU K) (tVar 1) (tPart (tVar 2)) tNoPart) tNil)))) [.dt (T a), .dt (T b), .dt (.int (s : Int))] (retE W (.dt (.tuple [T (cut a b).1, T (cut a b).2])))) := fun _ _ e => by
    refine ws_ret (ev_tup (ea_cons (ev_sl (ev_var rfl) (eo_some (ev_var rfl)) eo_none (sd_TLn (a := s) rfl (by walk_at "sz"))) (ea_cons (ev_sl (ev_var rfl) (eo_some (ev_var rfl)) eo_none (sd_TLn (a := s) rfl (by walk_at "sz"))) ea_nil)) (by show 2 ≤ sizeLine; decide)) ?_
    show _ = SD.dt (.tuple [T (cut a b).1, T (cut a b).2])
    rw [he, e]
  by_cases hs : s < a.length ∧ s < b.length
  · have da := drop_get (getD_some hs.1)
    have db := drop_get (getD_some hs.2)
    refine ⟨decide ([a.getD s 0] = [b.getD s 0]), ?_, fun hb2 => ?_, fun hb2 => ?_⟩
    · refine et_is (et_and (a := true) (b := decide ([a.getD s 0] = [b.getD s 0])) (et_test (ev_is (ev_op (ev_var rfl) (ev_cb (ea_cons (ev_cb (ea_cons (ev_var rfl) ea_nil) (cd_lenT (by walk_at "sz"))) (ea_cons (ev_cb (ea_cons (ev_var rfl) ea_nil) (cd_lenT (by walk_at "sz"))) ea_nil)) cd_min2) od_lt) ?_)) fun _ => et_test (ev_op (ev_op (ev_var rfl) (ev_var rfl) (od_ixT (by walk_at "sz") (atI_t hs.1))) (ev_op (ev_var rfl) (ev_var rfl) (od_ixT (by walk_at "sz") (atI_t hs.2))) od_eqT)) (Bool.true_and _)
      congr 1
      exact decide_eq_true (by split <;> omega)
    · have e : a.getD s 0 = b.getD s 0 := by simpa using hb2
      refine ws_set (sd := .dt (.int ((s + 1 : Nat) : Int))) (ev_is (ev_op (ev_var rfl) ev_int od_add_int) (by congr 1)) ⟨a.length - (s + 1), by omega, s + 1, rfl, by omega, by omega, ?_, rfl⟩
      rw [he, da, db, e]
      simp [cut]
    · have e : ¬ a.getD s 0 = b.getD s 0 := by simpa using hb2
      refine hret [] [] ?_
      rw [da, db]
      simp only [cut, if_neg e]
  · refine ⟨false, et_andF (et_test (ev_is (ev_op (ev_var rfl) (ev_cb (ea_cons (ev_cb (ea_cons (ev_var rfl) ea_nil) (cd_lenT (by walk_at "sz"))) (ea_cons (ev_cb (ea_cons (ev_var rfl) ea_nil) (cd_lenT (by walk_at "sz"))) ea_nil)) cd_min2) od_lt) ?_)), fun z => Bool.noConfusion z, fun _ => hret [] [] ?_⟩
    · congr 1
      exact decide_eq_false (by split <;> omega)
    · rcases Nat.lt_or_ge s a.length with z | z
      · have hbn : b.drop s = [] := List.drop_eq_nil_of_le (by omega)
        rw [hbn]
        cases a.drop s <;> simp [cut]
      · have han : a.drop s = [] := List.drop_eq_nil_of_le z
        rw [han]
        simp [cut]
theorem e_cut_both {a b : List Nat} (ha : EvS K ta τ (T a)) (hb : EvS K tb τ (T b)) (h1 : Fit a) (h2 : Fit b) : EvX K (tCallS (spD K F_cut_both) E (tCons ta (tCons tb tNil))) τ (.dt (.tuple [T (cut a b).1, T (cut a b).2])) :=
  ev_call (ea_cons ha (ea_cons hb ea_nil)) ⟨a, b, rfl, h1, h2, rfl⟩
end
end Sw
/-! part P6 -/
set_option Elab.async false
set_option linter.all false
set_option maxRecDepth 100000
set_option maxHeartbeats 4000000
namespace Sw
open PySem PySem.Spec L2
local macro_rules | `(tactic| walk_at "sz") => `(tactic| first | assumption | omega | (have hsz := szl; omega) | (have hsz := szl; simp only [List.length_append, List.length_cons, List.length_nil, List.length_take, List.length_drop, List.length_reverse, List.length_map, List.length_range]; omega) | decide)
local macro_rules | `(tactic| walk_at "evF") => `(tactic| fail)
local macro_rules | `(tactic| walk_at "ev1") => `(tactic| first
  | ((with_reducible apply ev_var); exact rfl) | with_reducible exact ev_int | with_reducible exact ev_none | with_reducible exact ev_bool | with_reducible exact ev_str
  | with_reducible exact ea_nil | with_reducible apply ea_cons | with_reducible exact eo_none | with_reducible apply eo_some
  | with_reducible exact et_yes | with_reducible apply et_B | with_reducible apply et_test | with_reducible apply et_not | with_reducible apply et_and | with_reducible apply et_or
  | (refine fun (_ : (_ : Bool) = true) => ?_) | (refine fun (_ : (_ : Bool) = false) => ?_)
  | walk_at "evF"
  | with_reducible apply ev_isi | with_reducible apply ev_op | with_reducible apply ev_cb | with_reducible apply ev_sl | with_reducible apply ev_un | with_reducible apply ev_notV
  | with_reducible apply ev_tup | with_reducible apply ev_lst | ((with_reducible apply EvX.frz); with_reducible apply ev_lst)
  | with_reducible apply ev_revL | with_reducible apply ev_revT | with_reducible apply ev_chain
  | with_reducible exact od_add_int | with_reducible exact od_sub | with_reducible exact od_lt | with_reducible exact od_le | with_reducible exact od_gt | with_reducible exact od_ge | with_reducible exact od_eq_int | with_reducible exact od_ne_int
  | with_reducible exact od_eqT | with_reducible exact od_neT | with_reducible exact od_ltT | with_reducible exact od_eq_bool | with_reducible exact od_ne_bool | with_reducible exact od_isN | with_reducible exact od_ntN | with_reducible exact od_isB | with_reducible exact od_ntB
  | with_reducible refine od_addT ?_ | ((with_reducible apply od_ix_tup); exact rfl) | ((with_reducible apply od_ix_list); exact rfl)
  | with_reducible exact cd_lenL | with_reducible exact cd_lenU | with_reducible exact cd_lenS | with_reducible refine cd_lenT ?_ | with_reducible refine cd_lenZ ?_ | with_reducible exact cd_max2 | with_reducible exact cd_min2 | with_reducible exact cd_all | with_reducible exact cd_any
  | refine sd_Tn rfl (Int.natCast_add _ _).symm ?_ | refine sd_Tn rfl rfl ?_ | refine sd_TLn rfl ?_ | refine sd_TRn rfl ?_
  | with_reducible refine od_mulT ?_ ?_ ?_ | with_reducible refine OpD.frz (od_mul_list ?_ ?_ ?_)
  | (intro z h; cases h; done) | walk_at "sz")
local macro_rules | `(tactic| walk_at "ev") => `(tactic| repeat' walk_at "ev1")
/-! ## find_parting -/
def F_find_parting (ds : List PyData) (sd : SD) : Prop := ∃ one oth o, ds = [.list (one.map rpD), .list (oth.map rpD)] ∧ RpS one ∧ RpS oth ∧ IsFirst (fun t => gdP one oth (stP one oth t)) o ∧ sd = .dt (optT o)
theorem len_find_parting : ∀ ds sd, F_find_parting ds sd → ds.length = 2 := by rintro _ _ ⟨_, _, _, rfl, _⟩; rfl
theorem abc_rds {old new p : List Nat} {c : Nat} (hn : abc new) (hp : abc p) (hc : c = 97 ∨ c = 98 ∨ c = 99) : abc (rds old new p c).1 ∧ abc (rds old new p c).2 := by
  have h := abc_app hp (abc_cons hc abc_nil)
  unfold rds
  split
  · exact ⟨abc_nil, hn⟩
  · exact ⟨lend_sub h, abc_take _ h⟩
theorem abc_run {old new : List Nat} (hn : abc new) : ∀ (t p : List Nat), abc p → abc t → abc (run old new p t).1 ∧ abc (run old new p t).2
  | [], p, hp, _ => ⟨hp, abc_nil⟩
  | c :: t, p, hp, ht => by
    have h1 := abc_rds (old := old) hn hp (ht c List.mem_cons_self)
    have h2 := abc_run (old := old) hn t _ h1.1 (fun x hx => ht x (List.mem_cons_of_mem _ hx))
    exact ⟨h2.1, abc_app h1.2 h2.2⟩
theorem abc_rdT : ∀ {sc : List RP} {ps : List (List Nat)} (t : List Nat), (∀ s ∈ sc, Rp s.1 s.2) → PreS sc ps → abc t → abc (rdT sc ps t).2
  | [], [], t, _, _, h => h
  | [], _ :: _, t, _, h, _ => h.elim
  | _ :: _, [], t, _, h, _ => h.elim
  | s :: sc, p :: ps, t, hr, h, ht => by
    have hs := hr s List.mem_cons_self
    exact abc_rdT (sc := sc) (ps := ps) (run s.1 s.2 p t).2 (fun x hx => hr x (List.mem_cons_of_mem _ hx)) h.2 (abc_run hs.na t p (pre_abc hs.oa h.1) ht).2
theorem abc_preS : ∀ {sc : List RP} {ps : List (List Nat)}, (∀ s ∈ sc, Rp s.1 s.2) → PreS sc ps → ∀ p ∈ ps, abc p
  | [], [], _, _, p, hp => by cases hp
  | [], _ :: _, _, h, _, _ => h.elim
  | _ :: _, [], _, h, _, _ => h.elim
  | s :: sc, q :: ps, hr, h, p, hp => by
    rcases List.mem_cons.mp hp with e | hp
    · rw [e]; exact pre_abc (hr s List.mem_cons_self).oa h.1
    · exact abc_preS (sc := sc) (ps := ps) (fun x hx => hr x (List.mem_cons_of_mem _ hx)) h.2 p hp
def psD (s : PST) : PyData := .tuple [.tuple (s.1.map T), .tuple (s.2.1.map T), T s.2.2.1, T s.2.2.2]
def ndP (one oth : List RP) (t : List Nat) : PyData := .tuple [T t, psD (stP one oth t)]
def kvP (one oth : List RP) (N : List (List Nat)) : List (PyData × PyData) := N.map fun t => (psD (stP one oth t), .bool true)
theorem mapT_inj : ∀ {a b : List (List Nat)}, a.map T = b.map T → a = b
  | [], [], _ => rfl
  | [], _ :: _, h => by cases h
  | _ :: _, [], h => by cases h
  | x :: a, y :: b, h => by
    rw [List.map_cons, List.map_cons] at h
    injection h with h1 h2
    injection h1 with h1
    rw [tx_inj h1, mapT_inj h2]
theorem psD_inj {a b : PST} (h : psD a = psD b) : a = b := by
  obtain ⟨a1, a2, a3, a4⟩ := a
  obtain ⟨b1, b2, b3, b4⟩ := b
  unfold psD at h
  injection h with h
  injection h with h1 h
  injection h with h2 h
  injection h with h3 h
  injection h with h4 _
  injection h1 with h1
  injection h2 with h2
  injection h3 with h3
  injection h4 with h4
  have e1 : a1 = b1 := mapT_inj h1
  have e2 : a2 = b2 := mapT_inj h2
  have e3 : a3 = b3 := tx_inj h3
  have e4 : a4 = b4 := tx_inj h4
  rw [e1, e2, e3, e4]
theorem kvP_mem {one oth : List RP} {N : List (List Nat)} {s : PST} : psD s ∈ (kvP one oth N).map (·.1) ↔ s ∈ N.map (stP one oth) := by
  have e : (kvP one oth N).map (·.1) = (N.map (stP one oth)).map psD := by unfold kvP; rw [List.map_map, List.map_map]; rfl
  rw [e]
  constructor
  · intro h
    obtain ⟨x, hx, e⟩ := List.mem_map.mp h
    rw [← psD_inj e]; exact hx
  · intro h; exact List.mem_map.mpr ⟨s, h, rfl⟩
structure OkP (one oth : List RP) (s : PST) : Prop where
  l : PreS one s.1
  r : PreS oth s.2.1
  a : abc s.2.2.1
  b : abc s.2.2.2
theorem okP_st {one oth : List RP} (h1 : RpS one) (h2 : RpS oth) {t : List Nat} (ht : abc t) : OkP one oth (stP one oth t) := by
  have q1 := abc_rdT t h1.2 (preS_init h1.2) ht
  have q2 := abc_rdT t h2.2 (preS_init h2.2) ht
  have q3 := abc_cut q1 q2
  exact ⟨preS_rdT t h1.2 (preS_init h1.2), preS_rdT t h2.2 (preS_init h2.2), q3.1, q3.2⟩
theorem keyNs_T : ∀ {l : List (List Nat)}, (∀ p ∈ l, abc p) → keyNs (l.map T) = true
  | [], _ => rfl
  | p :: l, h => by
    show (keyN (T p) && keyNs (l.map T)) = true
    rw [keyN_T (h p List.mem_cons_self), keyNs_T fun x hx => h x (List.mem_cons_of_mem _ hx)]
    rfl
theorem sh_tT {l : List (List Nat)} (h : ∀ p ∈ l, abc p) : Sh 2 (.tuple (l.map T)) := sh_tuple fun d hd => by
  obtain ⟨t, ht, rfl⟩ := List.mem_map.mp hd
  exact sh_T (h t ht)
theorem sh_psD {one oth : List RP} (h1 : RpS one) (h2 : RpS oth) {s : PST} (h : OkP one oth s) : Sh 3 (psD s) := sh_tuple fun d hd => by
  simp only [List.mem_cons, List.not_mem_nil, or_false] at hd
  rcases hd with rfl | rfl | rfl | rfl
  · exact sh_tT (abc_preS h1.2 h.l)
  · exact sh_tT (abc_preS h2.2 h.r)
  · exact (sh_T h.a).mono (by decide)
  · exact (sh_T h.b).mono (by decide)
theorem okK_ps {one oth : List RP} (h1 : RpS one) (h2 : RpS oth) {s : PST} (h : OkP one oth s) : okK (psD s) := by
  refine ⟨?_, Nat.le_trans (sh_psD h1 h2 h).2 (by decide)⟩
  show (keyNs (s.1.map T) && (keyNs (s.2.1.map T) && (keyN (T s.2.2.1) && (keyN (T s.2.2.2) && true)))) = true
  rw [keyNs_T (abc_preS h1.2 h.l), keyNs_T (abc_preS h2.2 h.r), keyN_T h.a, keyN_T h.b]
  rfl
theorem sh_ndP {one oth : List RP} (h1 : RpS one) (h2 : RpS oth) {t : List Nat} (ht : abc t) : Sh 4 (ndP one oth t) := sh_tuple fun d hd => by
  simp only [List.mem_cons, List.not_mem_nil, or_false] at hd
  rcases hd with rfl | rfl
  · exact (sh_T ht).mono (by decide)
  · exact sh_psD h1 h2 (okP_st h1 h2 ht)
theorem P_len {one oth : List RP} (h1 : RpS one) (h2 : RpS oth) {N : List (List Nat)} {p : Nat} (hS : Srch (stP one oth) (gdP one oth) N p) (hp : p ≤ N.length) (hn : (N.map (stP one oth)).Nodup) : p ≤ 4096 := by
  have hl : (N.take p).length = p := by rw [List.length_take]; omega
  have h := A_len h1 h2 (A := N.take p) (by rw [List.map_take]; exact hn.sublist (List.take_sublist _ _)) fun t ht => by
    obtain ⟨i, hi⟩ := List.mem_iff_getElem?.mp ht
    have hip : i < p := by have := (List.getElem?_eq_some_iff.mp hi).1; omega
    rw [List.getElem?_take_of_lt hip] at hi
    exact hS.bad i t hip hi
  omega
/-- what is ahead, where nothing parts -/
theorem ahead_len {one oth : List RP} (h1 : RpS one) (h2 : RpS oth) {t : List Nat} (ho : OkP one oth (stP one oth t)) (hg : ¬ gdP one oth (stP one oth t)) : (stP one oth t).2.2.1.length ≤ 8000 ∧ (stP one oth t).2.2.2.length ≤ 8000 := by
  have h : (stP one oth t).2.2.1 ++ full one (stP one oth t).1 [] = (stP one oth t).2.2.2 ++ full oth (stP one oth t).2.1 [] := Classical.not_not.mp hg
  have hc := cut_or _ _ _ _ h
  have l := congrArg List.length h
  rw [List.length_append, List.length_append] at l
  have f1 := full_len [] h1.2 ho.l
  have f2 := full_len [] h2.2 ho.r
  have p1 := pow_small h1.1
  have p2 := pow_small h2.1
  rw [List.length_nil, Nat.zero_add, Nat.one_mul] at f1 f2
  have hc : (stP one oth t).2.2.1 = [] ∨ (stP one oth t).2.2.2 = [] := hc
  rcases hc with e | e <;> rw [e, List.length_nil] at l ⊢ <;> omega
def t_find_parting (K : PySem.W.Frag) (W : WX) (w : World) : TS :=
  (tSeq (tAsg (tTup (tCons (tOp (rMulTu K) (tTup (tCons (tC (.str (tx []))) tNil)) (tCB (rLenU K) (tCons (tVar 0) tNil))) (tCons (tOp (rMulTu K) (tTup (tCons (tC (.str (tx []))) tNil)) (tCB (rLenU K) (tCons (tVar 1) tNil))) (tCons (tC (.str (tx []))) (tCons (tC (.str (tx []))) tNil))))) (gName 2))
    (tSeq (tPar 3 4 (tCons (tLst (tCons (tTup (tCons (tC (.str (tx []))) (tCons (tVar 2) tNil))) tNil)) (tCons (tNDisp K w (tVar 2) (tC (.bl true))) tNil)))
    (tSeq (tWhile (tTest (tOp (rNeU K) (tVar 3) (tLst tNil))) (tSeq (tAsg (tLst tNil) (gName 5))
    (tSeq (tFor (iList K (tVar 3)) (gTup K 2 (gCons (gName 6) (gCons (gTup K 4 (gCons (gName 7) (gCons (gName 8) (gCons (gName 9) (gCons (gName 10) gNil))))) gNil))) (tSeq (tIfS (tTest (tOp (rNeU K) (tOp (rAddU K) (tVar 9) (tCallS (spD K F_rest_of) (WE W) (tCons (tVar 0) (tCons (tVar 7) tNil)))) (tOp (rAddU K) (tVar 10) (tCallS (spD K F_rest_of) (WE W) (tCons (tVar 1) (tCons (tVar 8) tNil)))))) (tRet (tVar 6)) tNext)
    (tFor (iStr (tC (.str (tx [97, 98, 99])))) (gName 11) (tSeq (tAsg (tCallS (spD K F_read_text) (WE W) (tCons (tVar 0) (tCons (tVar 7) (tCons (tVar 11) tNil)))) (gTup K 2 (gCons (gName 12) (gCons (gName 13) gNil))))
    (tSeq (tAsg (tCallS (spD K F_read_text) (WE W) (tCons (tVar 1) (tCons (tVar 8) (tCons (tVar 11) tNil)))) (gTup K 2 (gCons (gName 14) (gCons (gName 15) gNil))))
    (tSeq (tAsg (tOp (rAddU K) (tTup (tCons (tVar 12) (tCons (tVar 14) tNil))) (tCallS (spD K F_cut_both) (WE W) (tCons (tOp (rAddU K) (tVar 9) (tVar 13)) (tCons (tOp (rAddU K) (tVar 10) (tVar 15)) tNil)))) (gName 16))
    (tIfS (tTest (tOp (rNiD K w) (tVar 16) (tVar 4))) (tSeq (sNPut K w (tVar 4) (tVar 16) (tC (.bl true)))
    (tDrop (tBM K "list" rAppend (tVar 5) (tCons (tTup (tCons (tOp (rAddU K) (tVar 6) (tVar 11)) (tCons (tVar 16) tNil))) tNil)))) tNext)))))))
    (tAsg (tVar 5) (gName 3)))))
    (tRet (tC .non)))))
section
variable {K : PySem.W.Frag} {W : WX} {w : World} {ds : List PyData} {sd : SD} {τ : Tau} {ta tb tc : TE} {E : St → XK}
theorem map_rep (n : Nat) : (List.replicate n ([] : List Nat)).map T = List.replicate n (T []) := List.map_replicate
theorem ws_find_parting (h : F_find_parting ds sd) : WS K (t_find_parting K W w) (startD 17 ds) (retE W sd) := by
  obtain ⟨one, oth, o, rfl, hr1, hr2, ho, rfl⟩ := h
  have hl1 := hr1.1
  have hl2 := hr2.1
  have hp1 := pow_small hl1
  have hp2 := pow_small hl2
  show WS K (t_find_parting K W w) [.dt (.list (one.map rpD)), .dt (.list (oth.map rpD)), .no, .no, .no, .no, .no, .no, .no, .no, .no, .no, .no, .no, .no, .no, .no] _
  unfold t_find_parting
  have hst0 : PyData.tuple [.tuple (List.replicate one.length (T [])), .tuple (List.replicate oth.length (T [])), T [], T []] = psD (stP one oth []) := by
    have e1 : (rdT one (initS one) []).1 = initS one ∧ (rdT one (initS one) []).2 = [] := by
      have aux : ∀ sc : List RP, rdT sc (initS sc) [] = (initS sc, []) := fun sc => by
        induction sc with
        | nil => rfl
        | cons s sc ih =>
          show ([] :: (rdT sc (initS sc) []).1, (rdT sc (initS sc) []).2) = _
          rw [ih]; rfl
      rw [aux]; exact ⟨rfl, rfl⟩
    have e2 : (rdT oth (initS oth) []).1 = initS oth ∧ (rdT oth (initS oth) []).2 = [] := by
      have aux : ∀ sc : List RP, rdT sc (initS sc) [] = (initS sc, []) := fun sc => by
        induction sc with
        | nil => rfl
        | cons s sc ih =>
          show ([] :: (rdT sc (initS sc) []).1, (rdT sc (initS sc) []).2) = _
          rw [ih]; rfl
      rw [aux]; exact ⟨rfl, rfl⟩
    unfold psD stP
    rw [e1.1, e1.2, e2.1, e2.2]
    unfold initS
    show _ = PyData.tuple [.tuple ((List.replicate one.length ([] : List Nat)).map T), .tuple ((List.replicate oth.length ([] : List Nat)).map T), T [], T []]
    rw [map_rep, map_rep]
  have hok0 := okP_st hr1 hr2 (t := []) abc_nil
  refine ws_seq (ws_set (sd := .dt (psD (stP one oth []))) (ev_is (ev_tup (ea_cons (ev_op (ev_tup (ea_cons ev_str ea_nil) (by show 1 ≤ sizeLine; decide)) (ev_cb (ea_cons (ev_var rfl) ea_nil) cd_lenL) (od_mul_tup1 (k := (one.map rpD).length) (by rw [List.length_map]; omega))) (ea_cons (ev_op (ev_tup (ea_cons ev_str ea_nil) (by show 1 ≤ sizeLine; decide)) (ev_cb (ea_cons (ev_var rfl) ea_nil) cd_lenL) (od_mul_tup1 (k := (oth.map rpD).length) (by rw [List.length_map]; omega))) (ea_cons ev_str (ea_cons ev_str ea_nil)))) (by show 4 ≤ sizeLine; decide)) (by rw [List.length_map, List.length_map]; exact hst0)) ?_)
  refine ws_seq (ws_par (s1 := .ls [ndP one oth []]) (s2 := dcN w (kvP one oth [[]])) (ev_lst (ea_cons (ev_tup (ea_cons ev_str (ea_cons (ev_var rfl) ea_nil)) (by show 2 ≤ sizeLine; decide)) ea_nil) (by show 1 ≤ sizeLine; decide)) (ev_ndisp (ev_var rfl) ev_bool (okK_ps hr1 hr2 hok0)) ?_)
  refine ws_frz 3 rfl ?_
  refine ws_seq (ws_while (fun m τ => ∃ (A level : List (List Nat)) (n : Nat) (x2 x5 x6 x7 x8 x9 x10 x11 x12 x13 x14 x15 x16 : SD), τ = [.dt (.list (one.map rpD)), .dt (.list (oth.map rpD)), x2, .dt (.list (level.map (ndP one oth))), dcN w (kvP one oth (A ++ level)), x5, x6, x7, x8, x9, x10, x11, x12, x13, x14, x15, x16] ∧ Srch (stP one oth) (gdP one oth) (A ++ level) A.length ∧
      ((A ++ level).map (stP one oth)).Nodup ∧ (∀ t ∈ level, t.length = n) ∧ n ≤ A.length ∧ (A ++ level).length ≤ 1 + 3 * A.length ∧ (∀ t ∈ level, (stP one oth t).2.2.1.length ≤ 30000 ∧ (stP one oth t).2.2.2.length ≤ 30000) ∧ m = 4097 - A.length) 4097
    ⟨[], [[]], 0, _, _, _, _, _, _, _, _, _, _, _, _, _, rfl, Srch.start, by simp, by simp, Nat.le_refl _, by simp, fun t ht => by
      rw [List.mem_singleton.mp ht]
      have e := psD_inj (hst0.symm.trans (show _ = psD (List.replicate one.length [], List.replicate oth.length [], [], []) by unfold psD; rw [map_rep, map_rep]))
      rw [e]; simp, rfl⟩ ?_)
  rintro m τ ⟨A, level, n, x2, x5, x6, x7, x8, x9, x10, x11, x12, x13, x14, x15, x16, rfl, hS, hnd, hlen, hnA, hNl, hsz, rfl⟩
  have hab : ∀ t ∈ level, abc t := fun t ht => hS.ab t (List.mem_append_right _ ht)
  refine ⟨!level.isEmpty, ?_, fun hb => ?_, fun hb => ?_⟩
  · refine et_test (ev_is (ev_op (ev_var rfl) (EvX.frz (ev_lst ea_nil (Nat.zero_le _))) (od_neD ((sh_list (n := 4) fun d hd => ?_).ok (by decide)) ((sh_list (n := 1) (ds := []) fun d hd => by cases hd).ok (by decide)))) ?_)
    · obtain ⟨t, ht, rfl⟩ := List.mem_map.mp hd
      exact sh_ndP hr1 hr2 (hab t ht)
    · cases level <;> rfl
  · have hne : level ≠ [] := fun z => by rw [z] at hb; cases hb
    refine ws_seq (ws_set (ev_lst ea_nil (Nat.zero_le _)) ?_)
    refine ws_seq (ws_for (ie_list (ev_var rfl)) (fun i τ => ∃ (longer : List (List Nat)) (x6 x7 x8 x9 x10 x11 x12 x13 x14 x15 x16 : SD), τ = [.dt (.list (one.map rpD)), .dt (.list (oth.map rpD)), x2, .dt (.list (level.map (ndP one oth))), dcN w (kvP one oth (A ++ level ++ longer)), .ls (longer.map (ndP one oth)), x6, x7, x8, x9, x10, x11, x12, x13, x14, x15, x16] ∧
        Srch (stP one oth) (gdP one oth) (A ++ level ++ longer) (A.length + i) ∧ ((A ++ level ++ longer).map (stP one oth)).Nodup ∧ (∀ r ∈ longer, r.length = n + 1) ∧ (∀ r ∈ longer, ∀ (j : Nat) (y : List Nat), i ≤ j → level[j]? = some y → rk r < 3 * rk y + 1) ∧
        (A ++ level ++ longer).length ≤ 1 + 3 * (A.length + i) + level.length ∧ longer.length ≤ 3 * i ∧ ∀ t ∈ longer, (stP one oth t).2.2.1.length ≤ 30000 ∧ (stP one oth t).2.2.2.length ≤ 30000)
      ⟨[], _, _, _, _, _, _, _, _, _, _, _, by rw [List.append_nil]; rfl, by rw [List.append_nil]; exact hS, by rw [List.append_nil]; exact hnd, fun r hr => by (cases hr), fun r hr => by (cases hr), by rw [List.append_nil]; omega, by simp, fun r hr => by (cases hr)⟩ ?_ ?_)
    · rintro i x τ hx ⟨longer, y6, y7, y8, y9, y10, y11, y12, y13, y14, y15, y16, rfl, hS1, hnd1, hlg1, hk1, hc1, hcl1, hz1⟩
      obtain ⟨t, ht, rfl⟩ := map_get hx
      have htm := List.mem_of_getElem? ht
      have hta := hab t htm
      have htl := hlen t htm
      have htz := hsz t htm
      have hil := (List.getElem?_eq_some_iff.mp ht).1
      have hNt : (A ++ level ++ longer)[A.length + i]? = some t := by
        rw [List.getElem?_append_left (by rw [List.length_append]; omega), List.getElem?_append_right (by omega), show A.length + i - A.length = i by omega]
        exact ht
      have hPi : A.length + i ≤ 4096 := P_len hr1 hr2 hS1 (by rw [List.length_append, List.length_append]; omega) hnd1
      have hokt := okP_st hr1 hr2 hta
      have f1 := full_len [] hr1.2 hokt.l
      have f2 := full_len [] hr2.2 hokt.r
      rw [List.length_nil, Nat.zero_add, Nat.one_mul] at f1 f2
      refine ⟨_, tg_tup (tgs_cons tg_name (tgs_cons (tg_tup (tgs_cons tg_name (tgs_cons tg_name (tgs_cons tg_name (tgs_cons tg_name tgs_nil)))) rfl) tgs_nil)) rfl, ?_⟩
      have hbase : ∀ r ∈ A ++ level, rk r ≤ 3 * rk t := fun r hr => by
        rcases List.mem_append.mp hr with hra | hrl
        · obtain ⟨q, hq⟩ := List.mem_iff_getElem?.mp hra
          have hql := (List.getElem?_eq_some_iff.mp hq).1
          have := hS1.srt q (A.length + i) r t (by omega) (by rw [List.append_assoc, List.getElem?_append_left hql]; exact hq) hNt
          omega
        · exact rk_same n r t (hlen r hrl) htl (hab r hrl) hta
      refine ws_seq (ws_if (b := !decide ((stP one oth t).2.2.1 ++ full one (stP one oth t).1 [] = (stP one oth t).2.2.2 ++ full oth (stP one oth t).2.1 [])) (et_test (ev_op (ev_op (ev_var rfl) (e_rest_of (ev_var rfl) (ev_var rfl) hr1 hokt.l) (od_addT (by have := szl; omega))) (ev_op (ev_var rfl) (e_rest_of (ev_var rfl) (ev_var rfl) hr2 hokt.r) (od_addT (by have := szl; omega))) od_neT)) (fun hb => ws_ret (ev_var rfl) ?_) (fun hb => ws_next ?_))
      · have hg : gdP one oth (stP one oth t) := fun z => by rw [decide_eq_true z] at hb; cases hb
        show SD.dt (T t) = SD.dt (optT o)
        rw [← (hS1.found (fun u v c => stP_nd) hNt hg).uniq ho]
        rfl
      have hng : ¬ gdP one oth (stP one oth t) := fun z => by rw [decide_eq_false z] at hb; cases hb
      have hah := ahead_len hr1 hr2 hokt hng
      refine ws_forN (in_str ev_str) (fun k τ => ∃ (longer : List (List Nat)) (x11 x12 x13 x14 x15 x16 : SD), τ = [.dt (.list (one.map rpD)), .dt (.list (oth.map rpD)), x2, .dt (.list (level.map (ndP one oth))), dcN w (kvP one oth (A ++ level ++ longer)), .ls (longer.map (ndP one oth)), .dt (T t), .dt (.tuple ((stP one oth t).1.map T)), .dt (.tuple ((stP one oth t).2.1.map T)), .dt (T (stP one oth t).2.2.1), .dt (T (stP one oth t).2.2.2), x11, x12, x13, x14, x15, x16] ∧
          Srch (stP one oth) (gdP one oth) (A ++ level ++ longer) (A.length + i) ∧ ((A ++ level ++ longer).map (stP one oth)).Nodup ∧ (∀ r ∈ longer, r.length = n + 1) ∧ (∀ r ∈ longer, rk r < 3 * rk t + 1 + k) ∧ (∀ c, 97 ≤ c → c < 97 + k → ∃ r ∈ A ++ level ++ longer, stP one oth r = stP one oth (t ++ [c]) ∧ rk r ≤ rk (t ++ [c])) ∧
          longer.length ≤ 3 * i + k ∧ ∀ t ∈ longer, (stP one oth t).2.2.1.length ≤ 30000 ∧ (stP one oth t).2.2.2.length ≤ 30000)
          ⟨longer, _, _, _, _, _, _, rfl, hS1, hnd1, hlg1, fun r hr => by have := hk1 r hr i t (Nat.le_refl _) ht; omega, fun c h1 h2 => by omega, by omega, hz1⟩ ?_ ?_
      · rintro k x τ hx ⟨lg, z11, z12, z13, z14, z15, z16, rfl, hS2, hnd2, hl2, hk2, hc2, hcl2, hz2⟩
        obtain ⟨c, hc, rfl⟩ := signs_get hx
        have hck : c = 97 + k ∧ k < 3 := by
          match k, hc with
          | 0, hc => cases hc; exact ⟨rfl, by decide⟩
          | 1, hc => cases hc; exact ⟨rfl, by decide⟩
          | 2, hc => cases hc; exact ⟨rfl, by decide⟩
        obtain ⟨hck, hk3⟩ := hck
        have hcs : c = 97 ∨ c = 98 ∨ c = 99 := by omega
        have hst := stP_app one oth t c
        have htc : abc (t ++ [c]) := abc_app hta (abc_cons hcs abc_nil)
        have g1 := rdT_len [c] hr1.2 hokt.l
        have g2 := rdT_len [c] hr2.2 hokt.r
        rw [List.length_singleton] at g1 g2
        have hrk : rk (t ++ [c]) = 3 * rk t + 1 + k := by rw [rk_app]; omega
        have hall : ∀ r ∈ A ++ level ++ lg, rk r < rk (t ++ [c]) := fun r hr => by
          rw [hrk]
          rcases List.mem_append.mp hr with z | z
          · have := hbase r z; omega
          · exact hk2 r z
        have hNsz : (A ++ level ++ lg).length ≤ 100000 := by
          rw [List.length_append]; omega
        refine ⟨_, tg_name, ?_⟩
        refine ws_seq (ws_asg (e_read_text (ev_var rfl) (ev_var rfl) (ev_var rfl) hr1 hokt.l (by show 1 ≤ 10; decide)) (tg_tup (tgs_cons tg_name (tgs_cons tg_name tgs_nil)) rfl) ?_)
        refine ws_seq (ws_asg (e_read_text (ev_var rfl) (ev_var rfl) (ev_var rfl) hr2 hokt.r (by show 1 ≤ 10; decide)) (tg_tup (tgs_cons tg_name (tgs_cons tg_name tgs_nil)) rfl) ?_)
        have hlo : ((stP one oth t).2.2.1 ++ (rdT one (stP one oth t).1 [c]).2).length ≤ 30000 := by rw [List.length_append]; omega
        have hlb : ((stP one oth t).2.2.2 ++ (rdT oth (stP one oth t).2.1 [c]).2).length ≤ 30000 := by rw [List.length_append]; omega
        refine ws_seq (ws_set (sd := .dt (psD (stP one oth (t ++ [c])))) (ev_is (ev_op (ev_tup (ea_cons (ev_var rfl) (ea_cons (ev_var rfl) ea_nil)) (by show 2 ≤ sizeLine; decide)) (e_cut_both (ev_op (ev_var rfl) (ev_var rfl) (od_addT (by have := szl; rw [List.length_append] at hlo; omega))) (ev_op (ev_var rfl) (ev_var rfl) (od_addT (by have := szl; rw [List.length_append] at hlb; omega))) (by unfold Fit; omega) (by unfold Fit; omega)) (od_add_tup (by show 4 ≤ sizeLine; decide))) (by rw [hst]; rfl)) ?_)
        have hokc := okP_st hr1 hr2 htc
        have hokk := okK_ps hr1 hr2 hokc
        have hcz : (stP one oth (t ++ [c])).2.2.1.length ≤ 30000 ∧ (stP one oth (t ++ [c])).2.2.2.length ≤ 30000 := by
          rw [hst]
          have := cut_le ((stP one oth t).2.2.1 ++ (rdT one (stP one oth t).1 [c]).2) ((stP one oth t).2.2.2 ++ (rdT oth (stP one oth t).2.1 [c]).2)
          exact ⟨Nat.le_trans this.1 hlo, Nat.le_trans this.2 hlb⟩
        refine ws_ifNi (kvs := kvP one oth (A ++ level ++ lg)) (i := 4) rfl (ev_var rfl) hokk (fun hni => ?_) (fun hin => ?_)
        · have hni2 : stP one oth (t ++ [c]) ∉ (A ++ level ++ lg).map (stP one oth) := fun z => hni (kvP_mem.mpr z)
          refine ws_seq (ws_nput (kvs := kvP one oth (A ++ level ++ lg)) (i := 4) rfl (ev_var rfl) hokk ev_bool hni (by unfold kvP; rw [List.length_map]; have := szl; omega) ?_)
          refine ws_append (i := 5) rfl (ev_tup (ea_cons (ev_op (ev_var rfl) (ev_var rfl) (od_addT (by have := szl; show t.length + 1 ≤ sizeLine; omega))) (ea_cons (ev_var rfl) ea_nil)) (by show 2 ≤ sizeLine; decide)) (by rw [List.length_map]; have := szl; omega) ?_
          have hd2 : kvP one oth (A ++ level ++ lg) ++ [(psD (stP one oth (t ++ [c])), .bool true)] = kvP one oth (A ++ level ++ (lg ++ [t ++ [c]])) := by
            rw [← List.append_assoc]; unfold kvP; simp only [List.map_append, List.map_cons, List.map_nil]
          refine ⟨lg ++ [t ++ [c]], .dt (T [c]), .dt (.tuple ((rdT one (stP one oth t).1 [c]).1.map T)), .dt (T (rdT one (stP one oth t).1 [c]).2), .dt (.tuple ((rdT oth (stP one oth t).2.1 [c]).1.map T)), .dt (T (rdT oth (stP one oth t).2.1 [c]).2), .dt (psD (stP one oth (t ++ [c]))), ?_, ?_, ?_, ?_, ?_, ?_, ?_, ?_⟩
          · rw [← hd2, List.map_append, List.map_singleton]; rfl
          · rw [← List.append_assoc]
            exact hS2.more (by rw [List.length_append, List.length_append]; omega) htc hall
          · rw [← List.append_assoc, List.map_append, List.map_singleton]
            refine List.nodup_append.mpr ⟨hnd2, by simp, fun a ha b hb => ?_⟩
            rw [List.mem_singleton.mp hb]
            exact fun z => hni2 (z ▸ ha)
          · intro r hr
            rcases List.mem_append.mp hr with z | z
            · exact hl2 r z
            · rw [List.mem_singleton.mp z, List.length_append, List.length_singleton]; omega
          · intro r hr
            rcases List.mem_append.mp hr with z | z
            · have := hk2 r z; omega
            · rw [List.mem_singleton.mp z, hrk]; omega
          · intro c' h1 h2
            rcases Nat.lt_or_ge c' (97 + k) with z | z
            · obtain ⟨r, q1, q2⟩ := hc2 c' h1 z
              exact ⟨r, by rw [← List.append_assoc]; exact List.mem_append_left _ q1, q2⟩
            · have e : c' = c := by omega
              subst e
              exact ⟨t ++ [c'], by rw [← List.append_assoc]; exact List.mem_append_right _ (List.mem_singleton.mpr rfl), rfl, Nat.le_refl _⟩
          · rw [List.length_append, List.length_singleton]; omega
          · intro r hr
            rcases List.mem_append.mp hr with z | z
            · exact hz2 r z
            · rw [List.mem_singleton.mp z]; exact hcz
        · refine ws_next ⟨lg, _, _, _, _, _, _, rfl, hS2, hnd2, hl2, fun r hr => by have := hk2 r hr; omega, fun c' h1 h2 => ?_, by omega, hz2⟩
          rcases Nat.lt_or_ge c' (97 + k) with z | z
          · exact hc2 c' h1 z
          · have e : c' = c := by omega
            subst e
            obtain ⟨r, q1, q2⟩ := List.mem_map.mp (kvP_mem.mp hin)
            exact ⟨r, q1, q2, Nat.le_of_lt (hall r q1)⟩
      · rintro τ ⟨lg, z11, z12, z13, z14, z15, z16, rfl, hS2, hnd2, hl2, hk2, hc2, hcl2, hz2⟩
        have hNt2 : (A ++ level ++ lg)[A.length + i]? = some t := by
          rw [List.getElem?_append_left (by rw [List.length_append]; omega), List.getElem?_append_right (by omega), show A.length + i - A.length = i by omega]
          exact ht
        have h3 : (signs (tx [97, 98, 99])).length = 3 := rfl
        rw [h3] at hk2 hc2 hcl2
        refine ⟨lg, _, _, _, _, _, _, _, _, _, _, _, rfl, hS2.next hNt2 hng fun c hc => hc2 c (by omega) (by omega), hnd2, hl2, fun r hr j y hj hy => ?_, ?_, by omega, hz2⟩
        · have hjl := (List.getElem?_eq_some_iff.mp hy).1
          have h1 := hk2 r hr
          have h2 := hS2.srt (A.length + i) (A.length + j) t y (by omega) hNt2 (by
            rw [List.getElem?_append_left (by rw [List.length_append]; omega), List.getElem?_append_right (by omega), show A.length + j - A.length = j by omega]
            exact hy)
          omega
        · rw [List.length_append, List.length_append] at *; omega
    · rintro τ ⟨longer, y6, y7, y8, y9, y10, y11, y12, y13, y14, y15, y16, rfl, hS1, hnd1, hlg1, hk1, hc1, hcl1, hz1⟩
      rw [List.length_map] at hS1 hcl1 hc1
      have hpos : 0 < level.length := List.length_pos_iff.mpr hne
      have hP := P_len hr1 hr2 hS1 (by rw [List.length_append, List.length_append]; omega) hnd1
      refine ws_frz 5 rfl (ws_set (ev_var rfl) ⟨_, ?_, A ++ level, longer, n + 1, _, _, _, _, _, _, _, _, _, _, _, _, _, rfl, ?_, hnd1, hlg1, ?_, ?_, hz1, rfl⟩)
      · rw [List.length_append]; omega
      · rw [List.length_append]
        exact hS1
      · rw [List.length_append]; omega
      · simp only [List.length_append] at hNl ⊢; omega
  · have hle : level = [] := by cases level with
      | nil => rfl
      | cons a b => cases hb
    refine ws_ret ev_none ?_
    show SD.dt .none = SD.dt (optT o)
    rw [← (hS.done (fun u v c => stP_nd) (by rw [hle, List.append_nil]; exact Nat.le_refl _)).uniq ho]
    rfl
theorem e_find_parting {one oth : List RP} {o : Option (List Nat)} (ha : EvS K ta τ (.list (one.map rpD))) (hb : EvS K tb τ (.list (oth.map rpD))) (h1 : RpS one) (h2 : RpS oth) (ho : IsFirst (fun t => gdP one oth (stP one oth t)) o) : EvX K (tCallS (spD K F_find_parting) E (tCons ta (tCons tb tNil))) τ (.dt (optT o)) :=
  ev_call (ea_cons ha (ea_cons hb ea_nil)) ⟨one, oth, o, rfl, h1, h2, ho, rfl⟩
end
end Sw
/-! part P7 -/
set_option Elab.async false
set_option linter.all false
set_option maxRecDepth 100000
set_option maxHeartbeats 4000000
namespace Sw
open PySem PySem.Spec L2
local macro_rules | `(tactic| walk_at "sz") => `(tactic| first | assumption | omega | (have hsz := szl; omega) | (have hsz := szl; simp only [List.length_append, List.length_cons, List.length_nil, List.length_take, List.length_drop, List.length_reverse, List.length_map, List.length_range]; omega) | decide)
local macro_rules | `(tactic| walk_at "evF") => `(tactic| fail)
local macro_rules | `(tactic| walk_at "ev1") => `(tactic| first
  | ((with_reducible apply ev_var); exact rfl) | with_reducible exact ev_int | with_reducible exact ev_none | with_reducible exact ev_bool | with_reducible exact ev_str
  | with_reducible exact ea_nil | with_reducible apply ea_cons | with_reducible exact eo_none | with_reducible apply eo_some
  | with_reducible exact et_yes | with_reducible apply et_B | with_reducible apply et_test | with_reducible apply et_not | with_reducible apply et_and | with_reducible apply et_or
  | (refine fun (_ : (_ : Bool) = true) => ?_) | (refine fun (_ : (_ : Bool) = false) => ?_)
  | walk_at "evF"
  | with_reducible apply ev_isi | with_reducible apply ev_op | with_reducible apply ev_cb | with_reducible apply ev_sl | with_reducible apply ev_un | with_reducible apply ev_notV
  | with_reducible apply ev_tup | with_reducible apply ev_lst | ((with_reducible apply EvX.frz); with_reducible apply ev_lst)
  | with_reducible apply ev_revL | with_reducible apply ev_revT | with_reducible apply ev_chain
  | with_reducible exact od_add_int | with_reducible exact od_sub | with_reducible exact od_lt | with_reducible exact od_le | with_reducible exact od_gt | with_reducible exact od_ge | with_reducible exact od_eq_int | with_reducible exact od_ne_int
  | with_reducible exact od_eqT | with_reducible exact od_neT | with_reducible exact od_ltT | with_reducible exact od_eq_bool | with_reducible exact od_ne_bool | with_reducible exact od_isN | with_reducible exact od_ntN | with_reducible exact od_isB | with_reducible exact od_ntB
  | with_reducible refine od_addT ?_ | ((with_reducible apply od_ix_tup); exact rfl) | ((with_reducible apply od_ix_list); exact rfl)
  | with_reducible exact cd_lenL | with_reducible exact cd_lenU | with_reducible exact cd_lenS | with_reducible refine cd_lenT ?_ | with_reducible refine cd_lenZ ?_ | with_reducible exact cd_max2 | with_reducible exact cd_min2 | with_reducible exact cd_all | with_reducible exact cd_any
  | refine sd_Tn rfl (Int.natCast_add _ _).symm ?_ | refine sd_Tn rfl rfl ?_ | refine sd_TLn rfl ?_ | refine sd_TRn rfl ?_
  | with_reducible refine od_mulT ?_ ?_ ?_ | with_reducible refine OpD.frz (od_mul_list ?_ ?_ ?_)
  | (intro z h; cases h; done) | walk_at "sz")
local macro_rules | `(tactic| walk_at "ev") => `(tactic| repeat' walk_at "ev1")
/-! ## scripts.py: judging, running, comparing -/
def eqS (one oth : List RP) : Prop := ∀ u, abc u → runS one u = runS oth u
noncomputable def eqB (one oth : List RP) : Bool := @decide (eqS one oth) (Classical.propDecidable _)
theorem eqB_iff {one oth : List RP} : eqB one oth = true ↔ eqS one oth := by unfold eqB; exact @decide_eq_true_iff _ (Classical.propDecidable _)
theorem eqB_of {a b c d : List RP} (h : eqS a b ↔ eqS c d) : eqB a b = eqB c d := by
  rw [Bool.eq_iff_iff, eqB_iff, eqB_iff]; exact h
theorem first_eqB {one oth : List RP} (h1 : RpS one) (h2 : RpS oth) {o : Option (List Nat)} (ho : IsFirst (fun t => gdP one oth (stP one oth t)) o) : o.isNone = eqB one oth := by
  rw [Bool.eq_iff_iff, eqB_iff]
  cases o with
  | none =>
    refine ⟨fun _ u hu => ?_, fun _ => rfl⟩
    exact Classical.not_not.mp fun z => ho u hu ((gdP_iff h1.2 h2.2 u).mpr z)
  | some t =>
    refine ⟨fun z => Bool.noConfusion z, fun z => ?_⟩
    exact absurd (z t ho.1) ((gdP_iff h1.2 h2.2 t).mp ho.2.1)
def F_check_script (ds : List PyData) (sd : SD) : Prop := ∃ d, ds = [d] ∧ okD d = true ∧ sd = chk (isScrD d) "InvalidScript"
def F_find_run (ds : List PyData) (sd : SD) : Prop := ∃ (sc : List RP) (text : List Nat), ds = [.list (sc.map rpD), T text] ∧ RpS sc ∧ text.length ≤ 1000 ∧ sd = .dt (T (runS sc text))
def F_run (ds : List PyData) (sd : SD) : Prop := ∃ (sc : List RP) (text : List Nat), ds = [.list (sc.map rpD), T text] ∧ RpS sc ∧ abc text ∧ text.length ≤ 40 ∧ sd = .dt (T (runS sc text))
def F_check_two (ds : List PyData) (sd : SD) : Prop := ∃ d d2, ds = [d, d2] ∧ okD d = true ∧ okD d2 = true ∧ sd = chk (isScrD d && isScrD d2) "InvalidScript"
def F_are_equal (ds : List PyData) (sd : SD) : Prop := ∃ one oth, ds = [.list (one.map rpD), .list (oth.map rpD)] ∧ RpS one ∧ RpS oth ∧ sd = .dt (.bool (eqB one oth))
theorem len_check_script : ∀ ds sd, F_check_script ds sd → ds.length = 1 := by rintro _ _ ⟨_, rfl, _⟩; rfl
theorem len_find_run : ∀ ds sd, F_find_run ds sd → ds.length = 2 := by rintro _ _ ⟨_, _, rfl, _⟩; rfl
theorem len_run : ∀ ds sd, F_run ds sd → ds.length = 2 := by rintro _ _ ⟨_, _, rfl, _⟩; rfl
theorem len_check_two : ∀ ds sd, F_check_two ds sd → ds.length = 2 := by rintro _ _ ⟨_, _, rfl, _⟩; rfl
theorem len_are_equal : ∀ ds sd, F_are_equal ds sd → ds.length = 2 := by rintro _ _ ⟨_, _, rfl, _⟩; rfl
theorem okAll_rp : ∀ {sc : List RP}, (∀ s ∈ sc, Rp s.1 s.2) → okAll (sc.map rpD) = true
  | [], _ => rfl
  | s :: sc, h => by
    show (okD (rpD s) && okAll (sc.map rpD)) = true
    rw [ok_rep (h s List.mem_cons_self), okAll_rp (sc := sc) fun x hx => h x (List.mem_cons_of_mem _ hx)]
    rfl
theorem ok_sc {sc : List RP} (h : RpS sc) : okD (.list (sc.map rpD)) = true := by
  have h3 := h.1
  show (okAll (sc.map rpD) && decide ((sc.map rpD).length ≤ sizeLine)) = true
  rw [okAll_rp h.2, decide_eq_true (by rw [List.length_map]; have := szl; omega)]
  rfl
theorem isScr_sc {sc : List RP} (h : RpS sc) : isScrD (.list (sc.map rpD)) = true := by
  have h3 := h.1
  show (decide ((sc.map rpD).length ≤ 3) && (sc.map rpD).all isRepD) = true
  rw [decide_eq_true (by rw [List.length_map]; exact h3), Bool.true_and, List.all_eq_true]
  intro d hd
  obtain ⟨s, hs, rfl⟩ := List.mem_map.mp hd
  exact isRep_rep (h.2 s hs)
theorem res_5 {old new t : List Nat} (hr : Rp old new) : (result old new t).length ≤ t.length * 5 := by
  have h1 := rsl_len old new 0 t
  have h2 := hr.n4
  exact Nat.le_trans h1 (Nat.mul_le_mul_left _ (by omega))
def t_check_script (K : PySem.W.Frag) (W : WX) : TS :=
  (tIfS (tNot (tB (tCallS (spD K F_is_script) (WE W) (tCons (tVar 0) tNil)))) (tRaise K W "InvalidScript") tNext)
def t_find_run (K : PySem.W.Frag) (W : WX) : TS :=
  (tSeq (tFor (iList K (tVar 0)) (gName 2) (tAsg (tCallS (spD K F_find_result) (WE W) (tCons (tVar 2) (tCons (tVar 1) tNil))) (gName 1)))
    (tRet (tVar 1)))
def t_run (K : PySem.W.Frag) (W : WX) : TS :=
  (tSeq (tDrop (tCallS (spD K F_check_script) (WE W) (tCons (tVar 0) tNil)))
    (tSeq (tDrop (tCallS (spD K F_check_text) (WE W) (tCons (tVar 1) tNil)))
    (tRet (tCallS (spD K F_find_run) (WE W) (tCons (tVar 0) (tCons (tVar 1) tNil))))))
def t_check_two (K : PySem.W.Frag) (W : WX) : TS :=
  (tSeq (tDrop (tCallS (spD K F_check_script) (WE W) (tCons (tVar 0) tNil)))
    (tDrop (tCallS (spD K F_check_script) (WE W) (tCons (tVar 1) tNil))))
def t_are_equal (K : PySem.W.Frag) (W : WX) : TS :=
  (tSeq (tDrop (tCallS (spD K F_check_two) (WE W) (tCons (tVar 0) (tCons (tVar 1) tNil))))
    (tRet (tOp rIsU (tCallS (spD K F_find_parting) (WE W) (tCons (tVar 0) (tCons (tVar 1) tNil))) (tC .non))))
section
variable {K : PySem.W.Frag} {W : WX} {w : World} {ds : List PyData} {sd : SD} {τ : Tau} {ta tb tc : TE} {E : St → XK}
theorem ws_check_script (h : F_check_script ds sd) : WS K (t_check_script K W) (startD 1 ds) (retE W sd) := by
  obtain ⟨d, rfl, hok, rfl⟩ := h
  refine ws_if (et_not (et_B (e_is_script (ev_var rfl) hok))) (fun z => ws_raise rfl ?_) fun z => ws_next ?_
  · show chk _ _ = _
    rw [show isScrD d = false by simpa using z]; rfl
  · show chk _ _ = _
    rw [show isScrD d = true by simpa using z]; rfl
theorem er_check_script {d : PyData} (ha : EvS K ta τ d) (hok : okD d = true) (h : isScrD d = false) : EvR K W (tCallS (spD K F_check_script) (WE W) (tCons ta tNil)) τ "InvalidScript" := er_call (ea_cons ha ea_nil) ⟨d, rfl, hok, by rw [h]; rfl⟩
theorem e_check_scriptD {d : PyData} (ha : EvS K ta τ d) (hok : okD d = true) (h : isScrD d = true) : EvX K (tCallS (spD K F_check_script) E (tCons ta tNil)) τ (.dt .none) := ev_call (ea_cons ha ea_nil) ⟨d, rfl, hok, by rw [h]; rfl⟩
theorem e_check_script {sc : List RP} (ha : EvS K ta τ (.list (sc.map rpD))) (h : RpS sc) : EvX K (tCallS (spD K F_check_script) E (tCons ta tNil)) τ (.dt .none) := e_check_scriptD ha (ok_sc h) (isScr_sc h)
theorem ws_find_run (h : F_find_run ds sd) : WS K (t_find_run K W) (startD 3 ds) (retE W sd) := by
  obtain ⟨sc, text, rfl, hr, hl, rfl⟩ := h
  have h3 := hr.1
  show WS K (t_find_run K W) [.dt (.list (sc.map rpD)), .dt (T text), .no] _
  unfold t_find_run
  refine ws_seq (ws_for (ie_list (ev_var rfl)) (fun i τ => ∃ t x, τ = [.dt (.list (sc.map rpD)), .dt (T t), x] ∧ runS sc text = runS (sc.drop i) t ∧ t.length ≤ 1000 * 5 ^ i) ⟨text, _, rfl, rfl, by omega⟩ ?_ ?_)
  · rintro i x τ hx ⟨t, y, rfl, he, htl⟩
    obtain ⟨s, hs, rfl⟩ := map_get hx
    have hil := (List.getElem?_eq_some_iff.mp hs).1
    have hrs := hr.2 s (List.mem_of_getElem? hs)
    rw [drop_get' hs] at he
    have h5 : 1000 * 5 ^ i ≤ 25000 := by
      match i, (show i < 3 by omega) with
      | 0, _ => decide
      | 1, _ => decide
      | 2, _ => decide
    have h6 := res_5 (t := t) hrs
    refine ⟨_, tg_name, ws_set (e_find_result (ev_var rfl) (ev_var rfl) hrs (by unfold Fit; omega)) ⟨result s.1 s.2 t, .dt (rpD s), rfl, he, ?_⟩⟩
    rw [Nat.pow_succ]; omega
  · rintro τ ⟨t, y, rfl, he, htl⟩
    rw [List.length_map, List.drop_length] at he
    have he : runS sc text = t := he
    refine ws_ret (ev_var rfl) ?_
    show SD.dt (T t) = SD.dt (T (runS sc text))
    rw [he]
theorem e_find_run {sc : List RP} {text : List Nat} (ha : EvS K ta τ (.list (sc.map rpD))) (hb : EvS K tb τ (T text)) (h : RpS sc) (hl : text.length ≤ 1000) : EvX K (tCallS (spD K F_find_run) E (tCons ta (tCons tb tNil))) τ (.dt (T (runS sc text))) := ev_call (ea_cons ha (ea_cons hb ea_nil)) ⟨sc, text, rfl, h, hl, rfl⟩
theorem ws_run (h : F_run ds sd) : WS K (t_run K W) (startD 2 ds) (retE W sd) := by
  obtain ⟨sc, text, rfl, hr, ha, hl, rfl⟩ := h
  exact ws_seq (ws_drop (e_check_script (ev_var rfl) hr) (ws_seq (ws_drop (e_check_text (ev_var rfl) ha hl) (ws_ret (e_find_run (ev_var rfl) (ev_var rfl) hr (by omega)) rfl))))
theorem e_run {sc : List RP} {text : List Nat} (ha : EvS K ta τ (.list (sc.map rpD))) (hb : EvS K tb τ (T text)) (h : RpS sc) (h1 : abc text) (hl : text.length ≤ 40) : EvX K (tCallS (spD K F_run) E (tCons ta (tCons tb tNil))) τ (.dt (T (runS sc text))) := ev_call (ea_cons ha (ea_cons hb ea_nil)) ⟨sc, text, rfl, h, h1, hl, rfl⟩
theorem ws_check_two (h : F_check_two ds sd) : WS K (t_check_two K W) (startD 2 ds) (retE W sd) := by
  obtain ⟨d, d2, rfl, h1, h2, rfl⟩ := h
  cases e1 : isScrD d with
  | false => exact ws_seq (ws_dropR rfl (er_check_script (ev_var rfl) h1 e1) (by rfl))
  | true =>
    cases e2 : isScrD d2 with
    | false => exact ws_seq (ws_drop (e_check_scriptD (ev_var rfl) h1 e1) (ws_dropR rfl (er_check_script (ev_var rfl) h2 e2) (by rfl)))
    | true => exact ws_seq (ws_drop (e_check_scriptD (ev_var rfl) h1 e1) (ws_drop (e_check_scriptD (ev_var rfl) h2 e2) rfl))
theorem e_check_two {one oth : List RP} (ha : EvS K ta τ (.list (one.map rpD))) (hb : EvS K tb τ (.list (oth.map rpD))) (h1 : RpS one) (h2 : RpS oth) : EvX K (tCallS (spD K F_check_two) E (tCons ta (tCons tb tNil))) τ (.dt .none) := ev_call (ea_cons ha (ea_cons hb ea_nil)) ⟨_, _, rfl, ok_sc h1, ok_sc h2, by rw [isScr_sc h1, isScr_sc h2]; rfl⟩
theorem er_check_two {d d2 : PyData} (ha : EvS K ta τ d) (hb : EvS K tb τ d2) (h1 : okD d = true) (h2 : okD d2 = true) (h : (isScrD d && isScrD d2) = false) : EvR K W (tCallS (spD K F_check_two) (WE W) (tCons ta (tCons tb tNil))) τ "InvalidScript" := er_call (ea_cons ha (ea_cons hb ea_nil)) ⟨_, _, rfl, h1, h2, by rw [h]; rfl⟩
theorem ws_are_equal (h : F_are_equal ds sd) : WS K (t_are_equal K W) (startD 2 ds) (retE W sd) := by
  obtain ⟨one, oth, rfl, h1, h2, rfl⟩ := h
  obtain ⟨o, ho⟩ := IsFirst.ex fun t => gdP one oth (stP one oth t)
  refine ws_seq (ws_drop (e_check_two (ev_var rfl) (ev_var rfl) h1 h2) (ws_ret (ev_op (e_find_parting (ev_var rfl) (ev_var rfl) h1 h2 ho) ev_none od_isN) ?_))
  show SD.dt (.bool (isNone (optT o))) = SD.dt (.bool (eqB one oth))
  rw [← first_eqB h1 h2 ho]
  cases o <;> rfl
theorem e_are_equal {one oth : List RP} (ha : EvS K ta τ (.list (one.map rpD))) (hb : EvS K tb τ (.list (oth.map rpD))) (h1 : RpS one) (h2 : RpS oth) : EvX K (tCallS (spD K F_are_equal) E (tCons ta (tCons tb tNil))) τ (.dt (.bool (eqB one oth))) := ev_call (ea_cons ha (ea_cons hb ea_nil)) ⟨one, oth, rfl, h1, h2, rfl⟩
end
end Sw
/-! part SwQ -/
set_option Elab.async false
set_option linter.all false
set_option maxRecDepth 100000
set_option maxHeartbeats 4000000
namespace Sw
/-! ## the mathematics of sources: what a text that has a given result looks like -/
abbrev pnd (old new t : List Nat) : List Nat := (run old new [] t).1
abbrev pout (old new t : List Nat) : List Nat := (run old new [] t).2
section
variable {old new : List Nat}
theorem res_eq (h : 1 ≤ old.length) (t : List Nat) : result old new t = pout old new t ++ pnd old new t := by
  have := run_rsl (new := new) h t [] (pre_nil h)
  rwa [List.nil_append] at this
theorem pnd_app (u : List Nat) (c : Nat) : pnd old new (u ++ [c]) = (rds old new (pnd old new u) c).1 := by unfold pnd; rw [run_app]
theorem pout_app (u : List Nat) (c : Nat) : pout old new (u ++ [c]) = pout old new u ++ (rds old new (pnd old new u) c).2 := by unfold pout; rw [run_app]
theorem rds_no {p : List Nat} {c : Nat} (hc : p ++ [c] ≠ old) : rds old new p c = (lend (p ++ [c]) old, (p ++ [c]).take ((p ++ [c]).length - (lend (p ++ [c]) old).length)) := by unfold rds; rw [if_neg hc]
theorem rds_yes {p : List Nat} {c : Nat} (hc : p ++ [c] = old) : rds old new p c = ([], new) := by unfold rds; rw [if_pos hc]
theorem pnd_cmp {u : List Nat} {c : Nat} (hc : pnd old new u ++ [c] = old) : pnd old new (u ++ [c]) = [] := by rw [pnd_app, rds_yes hc]
theorem pout_cmp {u : List Nat} {c : Nat} (hc : pnd old new u ++ [c] = old) : pout old new (u ++ [c]) = pout old new u ++ new := by rw [pout_app, rds_yes hc]
theorem res_lit (h : 1 ≤ old.length) {u : List Nat} {c : Nat} (hc : pnd old new u ++ [c] ≠ old) : result old new (u ++ [c]) = result old new u ++ [c] := by
  rw [res_eq h, res_eq h, pout_app, pnd_app, rds_no hc, List.append_assoc, lend_split, List.append_assoc]
theorem pnd_tail (h : 1 ≤ old.length) : ∀ (n : Nat) (t : List Nat), t.length = n → ∃ v, t = v ++ pnd old new t ∧ ∀ k, k ≤ (pnd old new t).length → result old new (v ++ (pnd old new t).take k) = pout old new t ++ (pnd old new t).take k := by
  intro n
  induction n with
  | zero =>
    intro t hl
    have e : t = [] := List.length_eq_zero_iff.mp hl
    subst e
    exact ⟨[], rfl, fun k hk => by
      show result old new ([] ++ ([] : List Nat).take k) = [] ++ ([] : List Nat).take k
      rw [List.take_nil]; rfl⟩
  | succ n ih =>
    intro t hl
    rcases last_or t with e | ⟨u, c, e⟩
    · subst e; cases hl
    · subst e
      obtain ⟨v, hv, hk⟩ := ih u (by simpa using hl)
      by_cases hc : pnd old new u ++ [c] = old
      · refine ⟨u ++ [c], by rw [pnd_cmp hc, List.append_nil], fun k _ => ?_⟩
        rw [pnd_cmp hc, List.take_nil, List.append_nil, List.append_nil, res_eq h, pnd_cmp hc, List.append_nil]
      · have hx := lend_split (pnd old new u ++ [c]) old
        have hp : pnd old new (u ++ [c]) = lend (pnd old new u ++ [c]) old := by rw [pnd_app, rds_no hc]
        have hq : pout old new (u ++ [c]) = pout old new u ++ (pnd old new u ++ [c]).take ((pnd old new u ++ [c]).length - (lend (pnd old new u ++ [c]) old).length) := by rw [pout_app, rds_no hc]
        have hfull : result old new (u ++ [c]) = pout old new u ++ (pnd old new u ++ [c]) := by rw [res_lit h hc, res_eq h, List.append_assoc]
        rw [hp, hq]
        generalize (pnd old new u ++ [c]).take ((pnd old new u ++ [c]).length - (lend (pnd old new u ++ [c]) old).length) = tk at hx
        generalize lend (pnd old new u ++ [c]) old = l at hx
        refine ⟨v ++ tk, ?_, fun k hkl => ?_⟩
        · rw [List.append_assoc, hx, ← List.append_assoc, ← hv]
        · by_cases hkk : k = l.length
          · subst hkk
            rw [List.take_length, List.append_assoc, hx, ← List.append_assoc, ← hv, List.append_assoc, hx]
            exact hfull
          · have hlen : tk.length + k ≤ (pnd old new u).length := by
              have := congrArg List.length hx
              simp only [List.length_append, List.length_singleton] at this
              omega
            have e : tk ++ l.take k = (pnd old new u).take (tk.length + k) := by
              rw [← List.take_append_of_le_length (l₂ := [c]) hlen, ← hx, List.take_append, List.take_of_length_le (l := tk) (by omega), Nat.add_sub_cancel_left]
            rw [List.append_assoc, e, List.append_assoc, e]
            exact hk _ hlen
/-- old, put behind, is replaced as a whole -/
def mput (old new : List Nat) : List Nat → List Nat → Bool
  | _, [] => false
  | p, c :: r => if p ++ [c] = old then r.isEmpty else mput old new (rds old new p c).1 r
/-- nothing is completed on the way -/
def nc (old new : List Nat) : List Nat → List Nat → Prop
  | _, [] => True
  | p, c :: r => p ++ [c] ≠ old ∧ nc old new (rds old new p c).1 r
theorem rds_len1 (p : List Nat) (c : Nat) : (rds old new p c).1.length ≤ p.length + 1 := by
  unfold rds
  split
  · exact Nat.zero_le _
  · have := lend_le (p ++ [c]) old
    rwa [List.length_append, List.length_singleton] at this
theorem run_lenQ : ∀ (r p : List Nat), (run old new p r).1.length ≤ p.length + r.length
  | [], p => by show p.length ≤ _; omega
  | c :: r, p => by
    show (run old new (rds old new p c).1 r).1.length ≤ _
    have h1 := run_lenQ r (rds old new p c).1
    have h2 := rds_len1 (old := old) (new := new) p c
    rw [List.length_cons]
    omega
theorem run_two : ∀ (a p b : List Nat), (run old new p (a ++ b)).1 = (run old new (run old new p a).1 b).1
  | [], p, b => rfl
  | c :: a, p, b => by
    show (run old new (rds old new p c).1 (a ++ b)).1 = (run old new (run old new (rds old new p c).1 a).1 b).1
    exact run_two a _ b
theorem not_nc : ∀ (r p : List Nat), ¬ nc old new p r → (run old new p r).1.length < r.length
  | [], p, h => absurd trivial h
  | c :: r, p, h => by
    show (run old new (rds old new p c).1 r).1.length < _
    by_cases hc : p ++ [c] = old
    · rw [rds_yes hc, List.length_cons]
      show (run old new [] r).1.length < _
      have := run_lenQ (old := old) (new := new) r []
      rw [List.length_nil] at this
      omega
    · have h2 : ¬ nc old new (rds old new p c).1 r := fun z => h ⟨hc, z⟩
      have := not_nc r _ h2
      rw [List.length_cons]
      omega
theorem nc_mput : ∀ (r p : List Nat) (c : Nat), nc old new p r → (run old new p r).1 ++ [c] = old → mput old new p (r ++ [c]) = true
  | [], p, c, _, h => by
    show (if p ++ [c] = old then _ else _) = true
    rw [if_pos (show p ++ [c] = old from h)]; rfl
  | d :: r, p, c, hn, h => by
    show (if p ++ [d] = old then _ else _) = true
    rw [if_neg hn.1]
    exact nc_mput r _ c hn.2 h
theorem mput_nc : ∀ (r p : List Nat), mput old new p r = true → ∃ r' c, r = r' ++ [c] ∧ nc old new p r' ∧ (run old new p r').1 ++ [c] = old
  | [], p, h => by cases h
  | c :: r, p, h => by
    have h : (if p ++ [c] = old then r.isEmpty else mput old new (rds old new p c).1 r) = true := h
    by_cases hc : p ++ [c] = old
    · rw [if_pos hc] at h
      have e := List.isEmpty_iff.mp h
      subst e
      exact ⟨[], c, rfl, trivial, hc⟩
    · rw [if_neg hc] at h
      obtain ⟨r', d, e, h1, h2⟩ := mput_nc r _ h
      exact ⟨c :: r', d, by rw [e]; rfl, ⟨hc, h1⟩, h2⟩
theorem nc_res (h : 1 ≤ old.length) : ∀ (r v : List Nat), nc old new (pnd old new v) r → result old new (v ++ r) = result old new v ++ r
  | [], v, _ => by rw [List.append_nil, List.append_nil]
  | c :: r, v, hn => by
    have e : v ++ c :: r = (v ++ [c]) ++ r := by rw [List.append_assoc]; rfl
    rw [e, nc_res h r (v ++ [c]) (by rw [pnd_app]; exact hn.2), res_lit h hn.1, List.append_assoc]
    rfl
theorem mput_res (h : 1 ≤ old.length) {v : List Nat} (hm : mput old new (pnd old new v) old = true) : pnd old new (v ++ old) = [] ∧ result old new (v ++ old) = result old new v ++ new := by
  obtain ⟨r', c, e, hn, hc⟩ := mput_nc _ _ hm
  have hp : pnd old new (v ++ r') = (run old new (pnd old new v) r').1 := run_two v [] r'
  rw [← hp] at hc
  have e1 : pnd old new (v ++ r') = r' := (List.append_inj' (hc.trans e) rfl).1
  have e2 : v ++ old = (v ++ r') ++ [c] := (congrArg (v ++ ·) e).trans (List.append_assoc _ _ _).symm
  have h3 := nc_res h r' v hn
  rw [res_eq h (v ++ r'), e1] at h3
  have h4 := List.append_cancel_right h3
  constructor
  · rw [e2]; exact pnd_cmp hc
  · rw [e2, res_eq h (v ++ r' ++ [c]), pnd_cmp hc, pout_cmp hc, List.append_nil, h4]
/-- the last sign completes old -/
def Cpl (old new t : List Nat) : Prop := ∃ u c, t = u ++ [c] ∧ pnd old new u ++ [c] = old
theorem cpl_form (h : 1 ≤ old.length) {t : List Nat} (hc : Cpl old new t) : ∃ v, t = v ++ old ∧ mput old new (pnd old new v) old = true := by
  obtain ⟨u, c, rfl, hc⟩ := hc
  obtain ⟨v, hv, _⟩ := pnd_tail (new := new) h _ u rfl
  refine ⟨v, ?_, ?_⟩
  · have e : u ++ [c] = v ++ (pnd old new u ++ [c]) := by rw [← List.append_assoc, ← hv]
    rw [hc] at e
    exact e
  · have hrun : (run old new (pnd old new v) (pnd old new u)).1 = pnd old new u := by
      rw [← run_two]
      exact congrArg (fun z => (run old new [] z).1) hv.symm
    have hn : nc old new (pnd old new v) (pnd old new u) := Classical.byContradiction fun z => by
      have := not_nc _ _ z
      rw [hrun] at this
      omega
    have := nc_mput _ _ c hn (by rw [hrun]; exact hc)
    rw [hc] at this
    exact this
theorem cpl_of {v : List Nat} (hm : mput old new (pnd old new v) old = true) : Cpl old new (v ++ old) := by
  obtain ⟨r', c, e, hn, hc⟩ := mput_nc _ _ hm
  exact ⟨v ++ r', c, (congrArg (v ++ ·) e).trans (List.append_assoc _ _ _).symm, by rw [show pnd old new (v ++ r') = _ from run_two v [] r']; exact hc⟩
theorem not_cpl {u : List Nat} {c : Nat} (hc : pnd old new u ++ [c] ≠ old) : ¬ Cpl old new (u ++ [c]) := by
  rintro ⟨u', c', e, hc'⟩
  obtain ⟨e1, e2⟩ := List.append_inj' e rfl
  cases e1
  cases e2
  exact hc hc'
/-- s is a source of r, or becomes one with more signs of new -/
def Src (old new r s : List Nat) (st : List Nat × Nat) : Prop :=
  (st.2 = 0 ∧ result old new s = r ∧ st.1 = pnd old new s) ∨
  (0 < st.2 ∧ st.2 < new.length ∧ st.1 = [] ∧ ∃ v, s = v ++ old ∧ mput old new (pnd old new v) old = true ∧ r = result old new v ++ new.take st.2)
def aput (new e : List Nat) (k : Nat) : List Nat × Nat := (e, if k = new.length then 0 else k)
def ways (old new : List Nat) (st : List Nat × Nat) (c : Nat) : List (List Nat × (List Nat × Nat)) :=
  if 0 < st.2 then (if new[st.2]? = some c then [([], aput new st.1 (st.2 + 1))] else [])
  else (if st.1 ++ [c] = old then [] else [([c], ((rds old new st.1 c).1, 0))]) ++ (if new.take 1 = [c] ∧ mput old new st.1 old = true then [(old, aput new [] 1)] else [])
/-- what a way is -/
theorem ways_mem {st st' : List Nat × Nat} {c : Nat} {p : List Nat} : (p, st') ∈ ways old new st c ↔
    (0 < st.2 ∧ new[st.2]? = some c ∧ p = [] ∧ st' = aput new st.1 (st.2 + 1)) ∨ (st.2 = 0 ∧ st.1 ++ [c] ≠ old ∧ p = [c] ∧ st' = ((rds old new st.1 c).1, 0)) ∨
    (st.2 = 0 ∧ new.take 1 = [c] ∧ mput old new st.1 old = true ∧ p = old ∧ st' = aput new [] 1) := by
  unfold ways
  by_cases h0 : 0 < st.2
  · rw [if_pos h0]
    by_cases h1 : new[st.2]? = some c
    · rw [if_pos h1, List.mem_singleton, Prod.mk.injEq]
      constructor
      · rintro ⟨rfl, rfl⟩; exact .inl ⟨h0, h1, rfl, rfl⟩
      · rintro (⟨_, _, e1, e2⟩ | ⟨z, _⟩ | ⟨z, _⟩)
        · exact ⟨e1, e2⟩
        · omega
        · omega
    · rw [if_neg h1]
      constructor
      · intro z; cases z
      · rintro (⟨_, z, _⟩ | ⟨z, _⟩ | ⟨z, _⟩)
        · exact absurd z h1
        · omega
        · omega
  · rw [if_neg h0, List.mem_append]
    have hz : st.2 = 0 := by omega
    constructor
    · rintro (h | h)
      · by_cases h1 : st.1 ++ [c] = old
        · rw [if_pos h1] at h; cases h
        · rw [if_neg h1, List.mem_singleton, Prod.mk.injEq] at h
          exact .inr (.inl ⟨hz, h1, h.1, h.2⟩)
      · by_cases h1 : new.take 1 = [c] ∧ mput old new st.1 old = true
        · rw [if_pos h1, List.mem_singleton, Prod.mk.injEq] at h
          exact .inr (.inr ⟨hz, h1.1, h1.2, h.1, h.2⟩)
        · rw [if_neg h1] at h; cases h
    · rintro (⟨z, _⟩ | ⟨_, h1, e1, e2⟩ | ⟨_, h1, h2, e1, e2⟩)
      · omega
      · left; rw [if_neg h1, List.mem_singleton, e1, e2]
      · right; rw [if_pos ⟨h1, h2⟩, List.mem_singleton, e1, e2]
theorem take_one_len {c : Nat} (h : new.take 1 = [c]) : 1 ≤ new.length := by
  have := congrArg List.length h
  rw [List.length_take, List.length_singleton] at this
  omega
theorem src_go (h : 1 ≤ old.length) {r s p : List Nat} {st st' : List Nat × Nat} {c : Nat} (hs : Src old new r s st) (hw : (p, st') ∈ ways old new st c) : Src old new (r ++ [c]) (s ++ p) st' := by
  rcases ways_mem.mp hw with ⟨h0, h1, rfl, rfl⟩ | ⟨h0, h1, rfl, rfl⟩ | ⟨h0, h1, h2, rfl, rfl⟩
  · rcases hs with ⟨z, _⟩ | ⟨_, hl, e1, v, rfl, hm, rfl⟩
    · omega
    · have ht : result old new v ++ new.take st.2 ++ [c] = result old new v ++ new.take (st.2 + 1) := by rw [List.take_succ, h1, List.append_assoc]; rfl
      have hv := mput_res h hm
      rw [List.append_nil, ht]
      unfold aput
      by_cases hk : st.2 + 1 = new.length
      · rw [if_pos hk]
        exact .inl ⟨rfl, by rw [hv.2, hk, List.take_length], by rw [hv.1]; exact e1⟩
      · rw [if_neg hk]
        exact .inr ⟨Nat.succ_pos _, by show st.2 + 1 < new.length; omega, e1, v, rfl, hm, rfl⟩
  · rcases hs with ⟨_, rfl, e1⟩ | ⟨z, _⟩
    · rw [e1] at h1 ⊢
      exact .inl ⟨rfl, res_lit h h1, (pnd_app s c).symm⟩
    · omega
  · rcases hs with ⟨_, rfl, e1⟩ | ⟨z, _⟩
    · rw [e1] at h2
      have hv := mput_res h h2
      have hl := take_one_len h1
      unfold aput
      by_cases hk : 1 = new.length
      · rw [if_pos hk]
        exact .inl ⟨rfl, by rw [hv.2, ← h1, hk, List.take_length], hv.1.symm⟩
      · rw [if_neg hk]
        exact .inr ⟨Nat.one_pos, by show 1 < new.length; omega, rfl, s, rfl, h2, by rw [h1]⟩
    · omega
theorem src_back (h : 1 ≤ old.length) (hn : new ≠ []) {r s' : List Nat} {st' : List Nat × Nat} {c : Nat} (hs : Src old new (r ++ [c]) s' st') : ∃ s st p, Src old new r s st ∧ (p, st') ∈ ways old new st c ∧ s' = s ++ p := by
  have hnl : 1 ≤ new.length := List.length_pos_iff.mpr hn
  rcases hs with ⟨h0, h1, h2⟩ | ⟨h0, h1, h2, v, rfl, hm, h3⟩
  · rcases last_or s' with e | ⟨u, d, e⟩
    · subst e
      have h1 : ([] : List Nat) = r ++ [c] := h1
      have := congrArg List.length h1
      rw [List.length_append] at this
      cases this
    · subst e
      have e2 : st' = (pnd old new (u ++ [d]), 0) := Prod.ext h2 h0
      by_cases hc : pnd old new u ++ [d] = old
      · obtain ⟨v, e, hm⟩ := cpl_form h ⟨u, d, rfl, hc⟩
        have hv := mput_res h hm
        rw [e] at h1 e2 ⊢
        rw [hv.1] at e2
        rw [hv.2] at h1
        by_cases hk : 1 = new.length
        · obtain ⟨g1, g2⟩ := List.append_inj' h1 (by rw [← hk]; rfl)
          refine ⟨v, (pnd old new v, 0), old, .inl ⟨rfl, g1, rfl⟩, ways_mem.mpr (.inr (.inr ⟨rfl, by rw [g2]; rfl, hm, rfl, ?_⟩)), rfl⟩
          rw [e2]; unfold aput; rw [if_pos hk]
        · rcases last_or new with z | ⟨M, x, z⟩
          · exact absurd z hn
          · have hM : new.length = M.length + 1 := by rw [z, List.length_append, List.length_singleton]
            have ht : new.take M.length = M := by rw [z, List.take_left]
            have hg : new[M.length]? = some x := by rw [z, List.getElem?_append_right (Nat.le_refl _), Nat.sub_self]; rfl
            have h4 : (result old new v ++ M) ++ [x] = r ++ [c] := by rw [List.append_assoc, ← z]; exact h1
            obtain ⟨g1, g2⟩ := List.append_inj' h4 rfl
            refine ⟨v ++ old, ([], M.length), [], .inr ⟨by show 0 < M.length; omega, by show M.length < new.length; omega, rfl, v, rfl, hm, by rw [ht]; exact g1.symm⟩, ways_mem.mpr (.inl ⟨by show 0 < M.length; omega, ?_, rfl, ?_⟩), (List.append_nil _).symm⟩
            · show new[M.length]? = some c
              rw [hg, (List.cons.inj g2).1]
            · rw [e2]; unfold aput; rw [if_pos hM.symm]
      · rw [res_lit h hc] at h1
        obtain ⟨g1, g2⟩ := List.append_inj' h1 rfl
        have g2 := (List.cons.inj g2).1
        subst g2
        refine ⟨u, (pnd old new u, 0), [d], .inl ⟨rfl, g1, rfl⟩, ways_mem.mpr (.inr (.inl ⟨rfl, hc, rfl, ?_⟩)), rfl⟩
        rw [e2, pnd_app]
  · have e2 : st' = ([], st'.2) := Prod.ext h2 rfl
    generalize st'.2 = k at h0 h1 h3 e2
    subst e2
    obtain ⟨j, rfl⟩ : ∃ j, k = j + 1 := ⟨k - 1, by omega⟩
    have hg : new[j]? = some (new[j]'(by omega)) := List.getElem?_eq_getElem (by omega)
    rw [List.take_succ, hg, ← List.append_assoc] at h3
    obtain ⟨g1, g2⟩ := List.append_inj' h3 rfl
    have g2 := (List.cons.inj g2).1
    rw [← g2] at hg
    by_cases hj : j = 0
    · subst hj
      rw [List.take_zero, List.append_nil] at g1
      refine ⟨v, (pnd old new v, 0), old, .inl ⟨rfl, g1.symm, rfl⟩, ways_mem.mpr (.inr (.inr ⟨rfl, ?_, hm, rfl, ?_⟩)), rfl⟩
      · rw [List.take_succ, hg]; rfl
      · unfold aput; rw [if_neg (by omega)]
    · refine ⟨v ++ old, ([], j), [], .inr ⟨by show 0 < j; omega, by show j < new.length; omega, rfl, v, rfl, hm, g1⟩, ways_mem.mpr (.inl ⟨by show 0 < j; omega, hg, rfl, ?_⟩), (List.append_nil _).symm⟩
      show _ = aput new [] (j + 1)
      unfold aput; rw [if_neg (by omega)]
theorem src_uniq (h : 1 ≤ old.length) {r s : List Nat} {st st' : List Nat × Nat} (h1 : Src old new r s st) (h2 : Src old new r s st') : st = st' := by
  rcases h1 with ⟨a1, a2, a3⟩ | ⟨a1, a2, a3, v, a4, a5, a6⟩
  · rcases h2 with ⟨b1, b2, b3⟩ | ⟨b1, b2, b3, u, b4, b5, b6⟩
    · exact Prod.ext (a3.trans b3.symm) (a1.trans b1.symm)
    · exfalso
      have hv := (mput_res h b5).2
      rw [← b4, a2, b6] at hv
      have := congrArg List.length hv
      simp only [List.length_append, List.length_take] at this
      omega
  · rcases h2 with ⟨b1, b2, b3⟩ | ⟨b1, b2, b3, u, b4, b5, b6⟩
    · exfalso
      have hv := (mput_res h a5).2
      rw [← a4, b2, a6] at hv
      have := congrArg List.length hv
      simp only [List.length_append, List.length_take] at this
      omega
    · have e : v = u := (List.append_inj' (a4.symm.trans b4) rfl).1
      subst e
      rw [a6] at b6
      have := congrArg List.length b6
      simp only [List.length_append, List.length_take] at this
      exact Prod.ext (a3.trans b3.symm) (by omega)
/-- what lies behind is one -/
theorem src_pred (h : 1 ≤ old.length) {r s1 s2 p1 p2 : List Nat} {st1 st2 t1 t2 : List Nat × Nat} {c : Nat} (h1 : Src old new r s1 st1) (h2 : Src old new r s2 st2) (w1 : (p1, t1) ∈ ways old new st1 c) (w2 : (p2, t2) ∈ ways old new st2 c)
    (e : s1 ++ p1 = s2 ++ p2) : s1 = s2 ∧ p1 = p2 := by
  -- the three kinds
  have kind : ∀ {s p : List Nat} {st t : List Nat × Nat}, Src old new r s st → (p, t) ∈ ways old new st c →
      (p = [c] ∧ ¬ Cpl old new (s ++ p) ∧ result old new s = r) ∨ (p = old ∧ Cpl old new (s ++ p) ∧ result old new s = r) ∨ (p = [] ∧ Cpl old new (s ++ p) ∧ ∃ v k, s = v ++ old ∧ 0 < k ∧ k < new.length ∧ r = result old new v ++ new.take k) := by
    intro s p st t hs hw
    rcases ways_mem.mp hw with ⟨h0, h1, rfl, rfl⟩ | ⟨h0, h1, rfl, rfl⟩ | ⟨h0, h1, h2, rfl, rfl⟩
    · rcases hs with ⟨z, _⟩ | ⟨_, hl, e1, v, rfl, hm, rfl⟩
      · omega
      · exact .inr (.inr ⟨rfl, by rw [List.append_nil]; exact cpl_of hm, v, st.2, rfl, h0, hl, rfl⟩)
    · rcases hs with ⟨_, e2, e1⟩ | ⟨z, _⟩
      · rw [e1] at h1
        exact .inl ⟨rfl, not_cpl h1, e2⟩
      · omega
    · rcases hs with ⟨_, e2, e1⟩ | ⟨z, _⟩
      · rw [e1] at h2
        exact .inr (.inl ⟨rfl, cpl_of h2, e2⟩)
      · omega
  rcases kind h1 w1 with ⟨a1, a2, a3⟩ | ⟨a1, a2, a3⟩ | ⟨a1, a2, v, k, a3, a4, a5, a6⟩
  · rcases kind h2 w2 with ⟨b1, b2, b3⟩ | ⟨b1, b2, b3⟩ | ⟨b1, b2, u, j, b3, b4, b5, b6⟩
    · rw [a1, b1] at e ⊢
      exact ⟨(List.append_inj' e rfl).1, rfl⟩
    · exact absurd (e ▸ b2) a2
    · exact absurd (e ▸ b2) a2
  · rcases kind h2 w2 with ⟨b1, b2, b3⟩ | ⟨b1, b2, b3⟩ | ⟨b1, b2, u, j, b3, b4, b5, b6⟩
    · exact absurd (e ▸ a2) b2
    · rw [a1, b1] at e ⊢
      exact ⟨(List.append_inj' e rfl).1, rfl⟩
    · exfalso
      rw [a1, b1, List.append_nil, b3] at e
      have e2 : s1 = u := (List.append_inj' e rfl).1
      rw [e2] at a3
      rw [← a3] at b6
      have := congrArg List.length b6
      simp only [List.length_append, List.length_take] at this
      omega
  · rcases kind h2 w2 with ⟨b1, b2, b3⟩ | ⟨b1, b2, b3⟩ | ⟨b1, b2, u, j, b3, b4, b5, b6⟩
    · exact absurd (e ▸ a2) b2
    · exfalso
      rw [a1, b1, List.append_nil, a3] at e
      have e2 : v = s2 := (List.append_inj' e rfl).1
      rw [← e2] at b3
      rw [← b3] at a6
      have := congrArg List.length a6
      simp only [List.length_append, List.length_take] at this
      omega
    · rw [a1, b1, List.append_nil, List.append_nil] at e
      exact ⟨e, by rw [a1, b1]⟩
/-- before the first sign -/
theorem res_nil (h : 1 ≤ old.length) (hn : new ≠ []) {s : List Nat} (e : result old new s = []) : s = [] := by
  cases s with
  | nil => rfl
  | cons c r =>
    have hne : old ≠ [] := fun z => by rw [z] at h; cases h
    have e : rsl old new 0 (c :: r) = [] := e
    by_cases hp : old <+: c :: r
    · rw [rsl_yes hne hp] at e
      exact absurd (List.append_eq_nil_iff.mp e).1 hn
    · rw [rsl_no hp] at e
      cases e
theorem src_nil (h : 1 ≤ old.length) (hn : new ≠ []) {s : List Nat} {st : List Nat × Nat} : Src old new [] s st ↔ s = [] ∧ st = ([], 0) := by
  constructor
  · rintro (⟨a1, a2, a3⟩ | ⟨a1, a2, a3, v, a4, a5, a6⟩)
    · have e := res_nil h hn a2
      subst e
      exact ⟨rfl, Prod.ext a3 a1⟩
    · exfalso
      have := congrArg List.length a6
      simp only [List.length_append, List.length_take, List.length_nil] at this
      omega
  · rintro ⟨rfl, rfl⟩
    exact .inl ⟨rfl, rfl, rfl⟩
/-- the states that may be -/
def OkSt (old new : List Nat) (st : List Nat × Nat) : Prop := Pre old st.1 ∧ (st.2 = 0 ∨ (st.1 = [] ∧ st.2 < new.length))
theorem okSt_nil (h : 1 ≤ old.length) : OkSt old new ([], 0) := ⟨pre_nil h, .inl rfl⟩
theorem okSt_aput (h : 1 ≤ old.length) {k : Nat} (hk : k ≤ new.length) : OkSt old new (aput new [] k) := by
  unfold aput
  refine ⟨pre_nil h, ?_⟩
  show (if k = new.length then 0 else k) = 0 ∨ _
  split
  · exact .inl rfl
  · exact .inr ⟨rfl, by show k < new.length; omega⟩
theorem okSt_ways (h : 1 ≤ old.length) {st st' : List Nat × Nat} {c : Nat} {p : List Nat} (hs : OkSt old new st) (hw : (p, st') ∈ ways old new st c) : OkSt old new st' ∧ p.length ≤ old.length := by
  rcases ways_mem.mp hw with ⟨h0, h1, rfl, rfl⟩ | ⟨h0, h1, rfl, rfl⟩ | ⟨h0, h1, h2, rfl, rfl⟩
  · have hl := (List.getElem?_eq_some_iff.mp h1).1
    have e : st.1 = [] := hs.2.elim (fun z => by omega) (fun z => z.1)
    rw [e]
    exact ⟨okSt_aput h (by omega), Nat.zero_le _⟩
  · exact ⟨⟨pre_rds h, .inl rfl⟩, h⟩
  · have hl := take_one_len h1
    exact ⟨okSt_aput h hl, Nat.le_refl _⟩
end
end Sw
/-! part SwV -/
set_option Elab.async false
set_option linter.all false
set_option maxRecDepth 100000
set_option maxHeartbeats 4000000
namespace Sw
/-! ## the mathematics of pairs: two different texts with the same result -/
abbrev PN := List Nat × List Nat × (List Nat × Nat) × (List Nat × Nat)
abbrev PKy := (List Nat × Nat) × (List Nat × Nat) × Bool
def pky (x : PN) : PKy := (x.2.2.1, x.2.2.2, decide (x.1 ≠ x.2.1))
def psucc (old new : List Nat) (x : PN) : List PN := [97, 98, 99].flatMap fun c => (ways old new x.2.2.1 c).flatMap fun w => (ways old new x.2.2.2 c).map fun u => (x.1 ++ w.1, x.2.1 ++ u.1, w.2, u.2)
def pstep (kl : List PKy × List PN) (y : PN) : List PKy × List PN := if pky y ∈ kl.1 then kl else (kl.1 ++ [pky y], kl.2 ++ [y])
def phit (x : PN) : Bool := decide (x.1 ≠ x.2.1) && (decide (x.2.2.1.2 = 0) && decide (x.2.2.2.2 = 0))
def pfold (old new : List Nat) (known : List PKy) (level : List PN) : List PKy × List PN := (level.flatMap (psucc old new)).foldl pstep (known, [])
def pairF (old new : List Nat) : Nat → List PKy → List PN → Option PN
  | 0, _, _ => none
  | n + 1, known, level => if level = [] then none else
    match (pfold old new known level).2.find? phit with
    | some x => some x
    | none => pairF old new n (pfold old new known level).1 (pfold old new known level).2
def proot : PN := ([], [], ([], 0), ([], 0))
def O2O (old new : List Nat) : Prop := ∀ s t, abc s → abc t → result old new s = result old new t → s = t
section
variable {old new : List Nat}
theorem psucc_mem {x y : PN} : y ∈ psucc old new x ↔ ∃ c, (c = 97 ∨ c = 98 ∨ c = 99) ∧ ∃ p a q b, (p, a) ∈ ways old new x.2.2.1 c ∧ (q, b) ∈ ways old new x.2.2.2 c ∧ y = (x.1 ++ p, x.2.1 ++ q, a, b) := by
  unfold psucc
  rw [List.mem_flatMap]
  constructor
  · rintro ⟨c, hc, h⟩
    simp only [List.mem_cons, List.not_mem_nil, or_false] at hc
    obtain ⟨⟨p, a⟩, hw, h⟩ := List.mem_flatMap.mp h
    obtain ⟨⟨q, b⟩, hu, e⟩ := List.mem_map.mp h
    exact ⟨c, hc, p, a, q, b, hw, hu, e.symm⟩
  · rintro ⟨c, hc, p, a, q, b, hw, hu, rfl⟩
    exact ⟨c, by simp only [List.mem_cons, List.not_mem_nil, or_false]; exact hc, List.mem_flatMap.mpr ⟨(p, a), hw, List.mem_map.mpr ⟨(q, b), hu, rfl⟩⟩⟩
theorem fold_step (L : List PN) : ∀ (known : List PKy) (lg : List PN), known.Nodup → ∃ more, L.foldl pstep (known, lg) = (known ++ more.map pky, lg ++ more) ∧ (∀ y ∈ more, y ∈ L) ∧ (known ++ more.map pky).Nodup ∧ ∀ y ∈ L, pky y ∈ known ++ more.map pky := by
  induction L with
  | nil => intro known lg hn; exact ⟨[], by simp, (fun y hy => by cases hy), by simpa using hn, (fun y hy => by cases hy)⟩
  | cons y L ih =>
    intro known lg hn
    rw [List.foldl_cons]
    unfold pstep
    by_cases hm : pky y ∈ known
    · rw [if_pos hm]
      obtain ⟨more, e, h1, h2, h3⟩ := ih known lg hn
      exact ⟨more, e, fun z hz => List.mem_cons_of_mem _ (h1 z hz), h2, fun z hz => by
        rcases List.mem_cons.mp hz with rfl | hz
        · exact List.mem_append_left _ hm
        · exact h3 z hz⟩
    · rw [if_neg hm]
      have hn2 : (known ++ [pky y]).Nodup := List.nodup_append.mpr ⟨hn, by simp, fun a ha b hb => by
        rw [List.mem_singleton.mp hb]
        exact fun z => hm (z ▸ ha)⟩
      obtain ⟨more, e, h1, h2, h3⟩ := ih (known ++ [pky y]) (lg ++ [y]) hn2
      have e1 : known ++ [pky y] ++ more.map pky = known ++ (y :: more).map pky := by rw [List.append_assoc]; rfl
      rw [e1] at e h2 h3
      refine ⟨y :: more, ?_, fun z hz => ?_, h2, fun z hz => ?_⟩
      · rw [List.append_assoc] at e
        exact e
      · rcases List.mem_cons.mp hz with rfl | hz
        · exact List.mem_cons_self
        · exact List.mem_cons_of_mem _ (h1 z hz)
      · rcases List.mem_cons.mp hz with rfl | hz
        · exact List.mem_append_right _ List.mem_cons_self
        · exact h3 z hz
/-- a node: both texts become sources of one text -/
def PGood (old new : List Nat) (i : Nat) (x : PN) : Prop := abc x.1 ∧ abc x.2.1 ∧ ∃ r : List Nat, r.length = i ∧ Src old new r x.1 x.2.2.1 ∧ Src old new r x.2.1 x.2.2.2
def PAll (old new : List Nat) (i : Nat) (known : List PKy) : Prop := ∀ r s t st st', abc r → r.length ≤ i → Src old new r s st → Src old new r t st' → (st, st', decide (s ≠ t)) ∈ known
theorem key_step (h : 1 ≤ old.length) {r s t a b p q : List Nat} {st st' sp sq : List Nat × Nat} {c : Nat} {r2 : List Nat} (h1 : Src old new r s st) (h2 : Src old new r t st') (g1 : Src old new r2 a st) (g2 : Src old new r2 b st') (e : decide (a ≠ b) = decide (s ≠ t))
    (w1 : (p, sp) ∈ ways old new st c) (w2 : (q, sq) ∈ ways old new st' c) : decide (a ++ p ≠ b ++ q) = decide (s ++ p ≠ t ++ q) := by
  have key : ∀ {r s t : List Nat}, Src old new r s st → Src old new r t st' → (s ++ p = t ++ q ↔ s = t ∧ p = q) := fun {r s t} h1 h2 => ⟨fun z => src_pred h h1 h2 w1 w2 z, fun ⟨z1, z2⟩ => by rw [z1, z2]⟩
  have e2 : a = b ↔ s = t := by
    have := (Bool.eq_iff_iff.mp e)
    simp only [decide_eq_true_eq, ne_eq] at this
    constructor
    · intro z; exact Classical.byContradiction fun q => this.mpr q z
    · intro z; exact Classical.byContradiction fun q => this.mp q z
  rw [Bool.eq_iff_iff]
  simp only [decide_eq_true_eq, ne_eq]
  rw [key g1 g2, key h1 h2, e2]
theorem all_step (h : 1 ≤ old.length) (hn : new ≠ []) {i : Nat} {M : List PN} {known : List PKy} (hM : ∀ x ∈ M, ∃ j, PGood old new j x) (hp : PAll old new i (M.map pky)) (hc : ∀ x ∈ M, ∀ y ∈ psucc old new x, pky y ∈ known) (hsub : ∀ k ∈ M.map pky, k ∈ known) : PAll old new (i + 1) known := by
  intro r s t st st' hr hl h1 h2
  by_cases hle : r.length ≤ i
  · exact hsub _ (hp r s t st st' hr hle h1 h2)
  · rcases last_or r with e | ⟨r0, c, e⟩
    · subst e
      exact absurd (Nat.zero_le _) hle
    · subst e
      have hr0 := abc_l hr
      rw [List.length_append, List.length_singleton] at hl
      obtain ⟨s0, st0, p, k1, k2, rfl⟩ := src_back h hn h1
      obtain ⟨t0, st0', q, l1, l2, rfl⟩ := src_back h hn h2
      obtain ⟨x, hx, e⟩ := List.mem_map.mp (hp r0 s0 t0 st0 st0' hr0.1 (by omega) k1 l1)
      obtain ⟨j, _, _, r2, _, g1, g2⟩ := hM x hx
      have e1 : x.2.2.1 = st0 := congrArg (fun z : PKy => z.1) e
      have e2 : x.2.2.2 = st0' := congrArg (fun z : PKy => z.2.1) e
      have e3 : decide (x.1 ≠ x.2.1) = decide (s0 ≠ t0) := congrArg (fun z : PKy => z.2.2) e
      rw [e1] at g1
      rw [e2] at g2
      have hy := hc x hx (x.1 ++ p, x.2.1 ++ q, st, st') (psucc_mem.mpr ⟨c, hr0.2, p, st, q, st', by rw [e1]; exact k2, by rw [e2]; exact l2, rfl⟩)
      have e4 := key_step h k1 l1 g1 g2 e3 k2 l2
      rw [← e4]
      exact hy
/-- the keys that may be -/
def allSt (old new : List Nat) : List (List Nat × Nat) := ((List.range old.length).map fun i => (old.take i, 0)) ++ ((List.range new.length).map fun k => ([], k))
def allKy (old new : List Nat) : List PKy := (allSt old new).flatMap fun a => (allSt old new).flatMap fun b => [(a, b, true), (a, b, false)]
theorem okSt_all {st : List Nat × Nat} (h : OkSt old new st) : st ∈ allSt old new := by
  obtain ⟨⟨h1, h2⟩, h3⟩ := h
  unfold allSt
  rw [List.mem_append]
  rcases h3 with z | ⟨z1, z2⟩
  · exact .inl (List.mem_map.mpr ⟨st.1.length, List.mem_range.mpr h2, Prod.ext h1.symm z.symm⟩)
  · exact .inr (List.mem_map.mpr ⟨st.2, List.mem_range.mpr z2, Prod.ext z1.symm rfl⟩)
theorem ky_all {k : PKy} (h1 : OkSt old new k.1) (h2 : OkSt old new k.2.1) : k ∈ allKy old new := by
  obtain ⟨a, b, c⟩ := k
  refine List.mem_flatMap.mpr ⟨a, okSt_all h1, List.mem_flatMap.mpr ⟨b, okSt_all h2, ?_⟩⟩
  cases c <;> simp
theorem flat_len {α β : Type} {f : α → List β} {k : Nat} : ∀ {l : List α}, (∀ x ∈ l, (f x).length ≤ k) → (l.flatMap f).length ≤ l.length * k
  | [], _ => by simp
  | x :: l, h => by
    rw [List.flatMap_cons, List.length_append, List.length_cons, Nat.succ_mul]
    have h1 := h x List.mem_cons_self
    have h2 := flat_len (l := l) fun y hy => h y (List.mem_cons_of_mem _ hy)
    omega
theorem allKy_len (hr : Rp old new) : (allKy old new).length ≤ 128 := by
  have hs : (allSt old new).length ≤ 8 := by
    unfold allSt
    rw [List.length_append, List.length_map, List.length_map, List.length_range, List.length_range]
    have := hr.o4
    have := hr.n4
    omega
  have h1 : ∀ a, ((allSt old new).flatMap fun b => [((a : List Nat × Nat), b, true), (a, b, false)]).length ≤ 16 := fun a => by
    have := flat_len (l := allSt old new) (f := fun b => [((a : List Nat × Nat), b, true), (a, b, false)]) (k := 2) (fun x _ => Nat.le_refl _)
    omega
  have h2 := flat_len (l := allSt old new) (f := fun a => (allSt old new).flatMap fun b => [((a : List Nat × Nat), b, true), (a, b, false)]) (k := 16) (fun x _ => h1 x)
  unfold allKy
  omega
theorem src_ok (h : 1 ≤ old.length) {r s : List Nat} {st : List Nat × Nat} (hs : Src old new r s st) : OkSt old new st := by
  rcases hs with ⟨a1, a2, a3⟩ | ⟨a1, a2, a3, _⟩
  · exact ⟨by rw [a3]; exact run_pre h s [] (pre_nil h), .inl a1⟩
  · exact ⟨by rw [a3]; exact pre_nil h, .inr ⟨a3, a2⟩⟩
theorem abc_way {st st' : List Nat × Nat} {c : Nat} {p : List Nat} (hr : Rp old new) (hc : c = 97 ∨ c = 98 ∨ c = 99) (hw : (p, st') ∈ ways old new st c) : abc p := by
  rcases ways_mem.mp hw with ⟨_, _, rfl, _⟩ | ⟨_, _, rfl, _⟩ | ⟨_, _, _, rfl, _⟩
  · exact abc_nil
  · exact abc_cons hc abc_nil
  · exact hr.oa
theorem good_succ (hr : Rp old new) {i : Nat} {x y : PN} (hx : PGood old new i x) (hy : y ∈ psucc old new x) : PGood old new (i + 1) y := by
  obtain ⟨c, hc, p, a, q, b, w1, w2, rfl⟩ := psucc_mem.mp hy
  obtain ⟨a1, a2, r, hl, s1, s2⟩ := hx
  exact ⟨abc_app a1 (abc_way hr hc w1), abc_app a2 (abc_way hr hc w2), r ++ [c], by rw [List.length_append, hl]; rfl, src_go hr.o1 s1 w1, src_go hr.o1 s2 w2⟩
structure PInv (old new : List Nat) (A level : List PN) (i : Nat) : Prop where
  nd : ((A ++ level).map pky).Nodup
  gd : ∀ x ∈ A, ∃ j, PGood old new j x
  gl : ∀ x ∈ level, PGood old new i x
  cl : ∀ x ∈ A, ∀ y ∈ psucc old new x, pky y ∈ (A ++ level).map pky
  nh : ∀ x ∈ A ++ level, phit x = false
  cp : PAll old new i ((A ++ level).map pky)
theorem PInv.all {A level : List PN} {i : Nat} (I : PInv old new A level i) : ∀ x ∈ A ++ level, ∃ j, PGood old new j x := fun x hx => by
  rcases List.mem_append.mp hx with z | z
  · exact I.gd x z
  · exact ⟨i, I.gl x z⟩
theorem PInv.len (hr : Rp old new) {A level : List PN} {i : Nat} (I : PInv old new A level i) : (A ++ level).length ≤ 128 := by
  have h := nd_le ((A ++ level).map pky) (allKy old new) I.nd fun k hk => by
    obtain ⟨x, hx, rfl⟩ := List.mem_map.mp hk
    obtain ⟨j, _, _, r, _, s1, s2⟩ := I.all x hx
    exact ky_all (src_ok hr.o1 s1) (src_ok hr.o1 s2)
  rw [List.length_map] at h
  exact Nat.le_trans h (allKy_len hr)
theorem PInv.start (hr : Rp old new) (hn : new ≠ []) : PInv old new [] [proot] 0 where
  nd := by simp
  gd := fun x hx => by cases hx
  gl := fun x hx => by
    rw [List.mem_singleton.mp hx]
    exact ⟨abc_nil, abc_nil, [], rfl, (src_nil hr.o1 hn).mpr ⟨rfl, rfl⟩, (src_nil hr.o1 hn).mpr ⟨rfl, rfl⟩⟩
  cl := fun x hx => by cases hx
  nh := fun x hx => by
    rw [List.nil_append, List.mem_singleton] at hx
    rw [hx]; rfl
  cp := fun r s t st st' _ hl h1 h2 => by
    have e : r = [] := List.length_eq_zero_iff.mp (by omega)
    subst e
    obtain ⟨rfl, rfl⟩ := (src_nil hr.o1 hn).mp h1
    obtain ⟨rfl, rfl⟩ := (src_nil hr.o1 hn).mp h2
    exact List.mem_singleton.mpr rfl
/-- what is found -/
def PRes (old new : List Nat) : Option PN → Prop
  | none => O2O old new
  | some x => x.1 ≠ x.2.1 ∧ abc x.1 ∧ abc x.2.1 ∧ result old new x.1 = result old new x.2.1 ∧ ∀ s t, abc s → abc t → s ≠ t → result old new s = result old new t → (result old new x.1).length ≤ (result old new s).length
theorem src_of (s : List Nat) : Src old new (result old new s) s (pnd old new s, 0) := .inl ⟨rfl, rfl, rfl⟩
theorem hit_of {x : PN} {s t : List Nat} (e : pky x = ((pnd old new s, 0), (pnd old new t, 0), true)) : phit x = true := by
  have e1 : x.2.2.1 = (pnd old new s, 0) := congrArg (fun z : PKy => z.1) e
  have e2 : x.2.2.2 = (pnd old new t, 0) := congrArg (fun z : PKy => z.2.1) e
  have e3 : decide (x.1 ≠ x.2.1) = true := congrArg (fun z : PKy => z.2.2) e
  unfold phit
  rw [e3, e1, e2]
  rfl
theorem none_of (hr : Rp old new) {M : List PN} (nh : ∀ x ∈ M, phit x = false) {i : Nat} (cp : PAll old new i (M.map pky)) {s t : List Nat} (hs : abc s) (ht : abc t) (hne : s ≠ t) (e : result old new s = result old new t) : i < (result old new s).length := by
  rcases Nat.lt_or_ge i (result old new s).length with z | z
  · exact z
  · have h1 := cp (result old new s) s t _ _ (abc_rsl hr.na 0 s hs) z (src_of s) (show Src old new (result old new s) t (pnd old new t, 0) by rw [e]; exact src_of t)
    obtain ⟨x, hx, e2⟩ := List.mem_map.mp h1
    rw [decide_eq_true hne] at e2
    have := nh x hx
    rw [hit_of e2] at this
    cases this
theorem PInv.next (hr : Rp old new) (hn : new ≠ []) {A level more : List PN} {i : Nat} (I : PInv old new A level i) (h1 : ∀ y ∈ more, y ∈ level.flatMap (psucc old new)) (h2 : ((A ++ level).map pky ++ more.map pky).Nodup) (h3 : ∀ y ∈ level.flatMap (psucc old new), pky y ∈ (A ++ level).map pky ++ more.map pky)
    (h4 : ∀ y ∈ more, phit y = false) : PInv old new (A ++ level) more (i + 1) where
  nd := by rw [List.map_append]; exact h2
  gd := I.all
  gl := fun y hy => by
    obtain ⟨x, hx, h⟩ := List.mem_flatMap.mp (h1 y hy)
    exact good_succ hr (I.gl x hx) h
  cl := fun x hx y hy => by
    rw [List.map_append (l₁ := A ++ level)]
    rcases List.mem_append.mp hx with z | z
    · exact List.mem_append_left _ (I.cl x z y hy)
    · exact h3 y (List.mem_flatMap.mpr ⟨x, z, hy⟩)
  nh := fun x hx => by
    rcases List.mem_append.mp hx with z | z
    · exact I.nh x z
    · exact h4 x z
  cp := by
    rw [List.map_append (l₁ := A ++ level)]
    refine all_step hr.o1 hn I.all I.cp (fun x hx y hy => ?_) fun k hk => List.mem_append_left _ hk
    rcases List.mem_append.mp hx with z | z
    · exact List.mem_append_left _ (I.cl x z y hy)
    · exact h3 y (List.mem_flatMap.mpr ⟨x, z, hy⟩)
theorem PInv.done (hr : Rp old new) (hn : new ≠ []) {A : List PN} {i : Nat} (I : PInv old new A [] i) : O2O old new := by
  have cp : ∀ j, PAll old new (i + j) ((A ++ []).map pky) := by
    intro j
    induction j with
    | zero => exact I.cp
    | succ j ih => exact all_step hr.o1 hn I.all ih (fun x hx y hy => I.cl x (by rwa [List.append_nil] at hx) y hy) fun k hk => hk
  intro s t hs ht e
  refine Classical.byContradiction fun hne => ?_
  have := none_of hr I.nh (cp (result old new s).length) hs ht hne e
  omega
theorem pairF_ok (hr : Rp old new) (hn : new ≠ []) : ∀ (n : Nat) (A level : List PN) (i : Nat), PInv old new A level i → (level = [] ∨ 128 < n + (A ++ level).length) → PRes old new (pairF old new n ((A ++ level).map pky) level)
  | 0, A, level, i, I, hf => by
    have hl := I.len hr
    have e : level = [] := hf.resolve_right (by omega)
    subst e
    exact I.done hr hn
  | n + 1, A, level, i, I, hf => by
    unfold pairF
    by_cases e : level = []
    · rw [if_pos e]
      subst e
      exact I.done hr hn
    · rw [if_neg e]
      obtain ⟨more, e1, h1, h2, h3⟩ := fold_step (level.flatMap (psucc old new)) ((A ++ level).map pky) [] I.nd
      have e2 : pfold old new ((A ++ level).map pky) level = ((A ++ level).map pky ++ more.map pky, more) := e1
      rw [e2]
      cases hx : more.find? phit with
      | some x =>
        have hh := List.find?_some hx
        have hm := List.mem_of_find?_eq_some hx
        obtain ⟨y, hy, hs⟩ := List.mem_flatMap.mp (h1 x hm)
        obtain ⟨a1, a2, r, hl, s1, s2⟩ := good_succ hr (I.gl y hy) hs
        unfold phit at hh
        simp only [Bool.and_eq_true, decide_eq_true_eq] at hh
        have r1 : result old new x.1 = r := s1.elim (fun z => z.2.1) fun z => by have := z.1; omega
        have r2 : result old new x.2.1 = r := s2.elim (fun z => z.2.1) fun z => by have := z.1; omega
        refine ⟨hh.1, a1, a2, r1.trans r2.symm, fun s t hs ht hne e => ?_⟩
        have := none_of hr I.nh I.cp hs ht hne e
        rw [r1, hl]
        omega
      | none =>
        have h4 : ∀ y ∈ more, phit y = false := fun y hy => by
          have := List.find?_eq_none.mp hx y hy
          simpa using this
        have I2 := I.next hr hn h1 h2 h3 h4
        have := pairF_ok hr hn n (A ++ level) more (i + 1) I2 (by
          by_cases z : more = []
          · exact .inl z
          · right
            have : 0 < more.length := List.length_pos_iff.mpr z
            have hf := hf.resolve_left e
            rw [List.length_append (as := A ++ level)]
            omega)
        rw [List.map_append (l₁ := A ++ level)] at this
        exact this
/-- the answer -/
def fpair (old new : List Nat) : Option (List Nat × List Nat) := if new = [] then some ([], old) else (pairF old new 200 [pky proot] [proot]).map fun x => (if x.2.1 < x.1 then x.2.1 else x.1, if x.1 < x.2.1 then x.2.1 else x.1)
theorem fpair_res (hr : Rp old new) (hn : new ≠ []) : PRes old new (pairF old new 200 [pky proot] [proot]) := pairF_ok hr hn 200 [] [proot] 0 (PInv.start hr hn) (.inr (by decide))
theorem res_old (hr : Rp old new) : result old new old = new := by
  show rsl old new 0 old = new
  rw [rsl_yes hr.ne (List.prefix_refl _), List.drop_length]
  simp [rsl]
theorem lt_tri (a b : List Nat) (h : a ≠ b) : a < b ∨ b < a := by
  rcases Classical.em (a < b) with z | z
  · exact .inl z
  · exact .inr (Classical.byContradiction fun q => h (List.le_antisymm (List.not_lt.mp q) (List.not_lt.mp z)))
theorem fpair_some (hr : Rp old new) {a b : List Nat} (h : fpair old new = some (a, b)) : a < b ∧ abc a ∧ abc b ∧ result old new a = result old new b ∧ ∀ s t, abc s → abc t → s ≠ t → result old new s = result old new t → (result old new a).length ≤ (result old new s).length := by
  unfold fpair at h
  by_cases hn : new = []
  · rw [if_pos hn] at h
    cases h
    have e : result old new [] = [] := rfl
    refine ⟨?_, abc_nil, hr.oa, ?_, fun s t _ _ _ _ => by rw [e]; exact Nat.zero_le _⟩
    · cases ho : old with
      | nil => exact absurd ho hr.ne
      | cons c r => exact List.nil_lt_cons c r
    · rw [res_old hr, e, hn]
  · rw [if_neg hn] at h
    have hp := fpair_res hr hn
    cases hx : pairF old new 200 [pky proot] [proot] with
    | none => rw [hx] at h; cases h
    | some x =>
      rw [hx] at h hp
      obtain ⟨h1, h2, h3, h4, h5⟩ := hp
      have h : some (if x.2.1 < x.1 then x.2.1 else x.1, if x.1 < x.2.1 then x.2.1 else x.1) = some (a, b) := h
      rw [Option.some.injEq, Prod.mk.injEq] at h
      rcases lt_tri _ _ h1 with z | z
      · have z2 : ¬ x.2.1 < x.1 := fun q => List.lt_irrefl _ (List.lt_trans z q)
        rw [if_neg z2, if_pos z] at h
        obtain ⟨rfl, rfl⟩ := h
        exact ⟨z, h2, h3, h4, h5⟩
      · have z2 : ¬ x.1 < x.2.1 := fun q => List.lt_irrefl _ (List.lt_trans z q)
        rw [if_pos z, if_neg z2] at h
        obtain ⟨rfl, rfl⟩ := h
        exact ⟨z, h3, h2, h4.symm, fun s t hs ht hne e => by rw [← h4]; exact h5 s t hs ht hne e⟩
theorem fpair_none (hr : Rp old new) : fpair old new = none ↔ O2O old new := by
  cases h : fpair old new with
  | none =>
    refine ⟨fun _ => ?_, fun _ => rfl⟩
    unfold fpair at h
    by_cases hn : new = []
    · rw [if_pos hn] at h; cases h
    · rw [if_neg hn] at h
      have hp := fpair_res hr hn
      cases hx : pairF old new 200 [pky proot] [proot] with
      | none => rw [hx] at hp; exact hp
      | some x => rw [hx] at h; cases h
  | some ab =>
    obtain ⟨a, b⟩ := ab
    obtain ⟨h1, h2, h3, h4, _⟩ := fpair_some hr h
    refine ⟨fun z => (by cases z), fun z => ?_⟩
    have e := z a b h2 h3 h4
    subst e
    exact absurd h1 (List.lt_irrefl _)
end
end Sw
/-! part SxJ -/
set_option Elab.async false
set_option linter.all false
set_option maxRecDepth 100000
set_option maxHeartbeats 4000000
namespace Sw
open PySem PySem.Spec L2
/-- an expression that is never reached: its reading asks for False -/
def tDead : TE := fun _ _ _ => False
theorem pe_dead {X : Cx} {e : Expr} : PE X e tDead := ⟨fun _ _ _ _ _ _ h => h.elim⟩
section
variable {old new : List Nat}
/-! ## the rows of sources -/
abbrev SRow := List Nat × (List Nat × Nat)
def srow1 (old new : List Nat) (c : Nat) (x : SRow) : List SRow := (ways old new x.2 c).map fun w => (x.1 ++ w.1, w.2)
def srow (old new : List Nat) (rows : List SRow) (c : Nat) : List SRow := rows.flatMap (srow1 old new c)
def srows (old new : List Nat) (r : List Nat) : List SRow := r.foldl (srow old new) [([], ([], 0))]
theorem srows_snoc (r : List Nat) (c : Nat) : srows old new (r ++ [c]) = srow old new (srows old new r) c := by
  unfold srows
  rw [List.foldl_append]; rfl
theorem srow1_mem {x y : SRow} {c : Nat} : y ∈ srow1 old new c x ↔ ∃ p, (p, y.2) ∈ ways old new x.2 c ∧ y.1 = x.1 ++ p := by
  unfold srow1
  rw [List.mem_map]
  constructor
  · rintro ⟨w, hw, rfl⟩; exact ⟨w.1, hw, rfl⟩
  · rintro ⟨p, hp, e⟩; exact ⟨(p, y.2), hp, by rw [← e]⟩
theorem rev_ind {P : List Nat → Prop} (h0 : P []) (h1 : ∀ r c, P r → P (r ++ [c])) : ∀ r, P r := by
  have key : ∀ n (r : List Nat), r.length = n → P r := by
    intro n
    induction n with
    | zero => intro r h; rw [List.length_eq_zero_iff.mp h]; exact h0
    | succ n ih =>
      intro r h
      have hne : r ≠ [] := fun z => by rw [z] at h; cases h
      rw [← List.dropLast_concat_getLast hne]
      exact h1 _ _ (ih _ (by rw [List.length_dropLast]; omega))
  exact fun r => key _ r rfl
theorem srows_mem (h : 1 ≤ old.length) (hn : new ≠ []) (r : List Nat) : ∀ x : SRow, x ∈ srows old new r ↔ Src old new r x.1 x.2 := by
  refine rev_ind (P := fun r => ∀ x : SRow, x ∈ srows old new r ↔ Src old new r x.1 x.2) ?_ ?_ r
  · intro x
    rw [src_nil h hn]
    show x ∈ [([], ([], 0))] ↔ _
    rw [List.mem_singleton]
    exact Prod.ext_iff
  · intro r c ih x
    rw [srows_snoc]
    unfold srow
    rw [List.mem_flatMap]
    constructor
    · rintro ⟨y, hy, hx⟩
      obtain ⟨p, hp, e⟩ := srow1_mem.mp hx
      rw [e]
      exact src_go h ((ih y).mp hy) hp
    · intro hs
      obtain ⟨s, st, p, h1, h2, e⟩ := src_back h hn hs
      exact ⟨(s, st), (ih (s, st)).mpr h1, srow1_mem.mpr ⟨p, h2, e⟩⟩
theorem srows_nd (h : 1 ≤ old.length) (hn : new ≠ []) (r : List Nat) : (srows old new r).Pairwise fun x y => x.1 ≠ y.1 := by
  refine rev_ind (P := fun r => (srows old new r).Pairwise fun x y => x.1 ≠ y.1) ?_ ?_ r
  · show ([([], ([], 0))] : List SRow).Pairwise _
    simp
  · intro r c ih
    rw [srows_snoc]
    unfold srow
    rw [List.pairwise_flatMap]
    constructor
    · intro x hx
      have hs := (srows_mem h hn r x).mp hx
      have hok := src_ok h hs
      unfold srow1
      rw [List.pairwise_map]
      unfold ways
      by_cases h0 : 0 < x.2.2
      · rw [if_pos h0]
        split <;> simp
      · rw [if_neg h0]
        by_cases hc : x.2.1 ++ [c] = old
        · rw [if_pos hc, List.nil_append]
          split <;> simp
        · rw [if_neg hc]
          split
          · rw [List.singleton_append, List.pairwise_cons]
            refine ⟨fun y hy => ?_, by simp⟩
            rw [List.mem_singleton.mp hy]
            intro z
            have z := List.append_cancel_left z
            have z : [c] = old := z
            have hl := hok.1.2
            rw [← z] at hl hc
            have : x.2.1 = [] := List.length_eq_zero_iff.mp (by simpa using hl)
            rw [this] at hc
            exact hc rfl
          · simp
    · refine ih.imp_of_mem ?_
      intro x y hx hy hxy a ha b hb e
      obtain ⟨p, hp, ea⟩ := srow1_mem.mp ha
      obtain ⟨q, hq, eb⟩ := srow1_mem.mp hb
      rw [ea, eb] at e
      exact hxy (src_pred h ((srows_mem h hn r x).mp hx) ((srows_mem h hn r y).mp hy) hp hq e).1
theorem ways_le (st : List Nat × Nat) (c : Nat) : (ways old new st c).length ≤ 2 := by
  unfold ways
  split
  · split <;> simp
  · split <;> split <;> simp
theorem srow_len (rows : List SRow) (c : Nat) : (srow old new rows c).length ≤ rows.length * 2 := flat_len fun x _ => by
  unfold srow1
  rw [List.length_map]
  exact ways_le _ _
theorem srows_len (r : List Nat) : (srows old new r).length ≤ 2 ^ r.length := by
  refine rev_ind (P := fun r => (srows old new r).length ≤ 2 ^ r.length) (Nat.le_refl _) ?_ r
  intro r c ih
  rw [srows_snoc, List.length_append, List.length_singleton, Nat.pow_succ]
  exact Nat.le_trans (srow_len _ _) (Nat.mul_le_mul_right 2 ih)
theorem srows_good (hr : Rp old new) (r : List Nat) : abc r → ∀ x ∈ srows old new r, abc x.1 ∧ x.1.length ≤ 4 * r.length ∧ OkSt old new x.2 := by
  have h := hr.o1
  have ho4 := hr.o4
  refine rev_ind (P := fun r => abc r → ∀ x ∈ srows old new r, abc x.1 ∧ x.1.length ≤ 4 * r.length ∧ OkSt old new x.2) ?_ ?_ r
  · intro _ x hx
    have hx : x ∈ [([], ([], 0))] := hx
    rw [List.mem_singleton.mp hx]
    exact ⟨abc_nil, Nat.le_refl _, okSt_nil h⟩
  · intro r c ih ha x hx
    rw [srows_snoc] at hx
    unfold srow at hx
    obtain ⟨y, hy, hx⟩ := List.mem_flatMap.mp hx
    obtain ⟨p, hp, e⟩ := srow1_mem.mp hx
    obtain ⟨i1, i2, i3⟩ := ih (fun d hd => ha d (List.mem_append_left _ hd)) y hy
    obtain ⟨k1, k2⟩ := okSt_ways h i3 hp
    have hc := ha c (List.mem_append_right _ List.mem_cons_self)
    rw [e, List.length_append, List.length_append, List.length_singleton]
    exact ⟨abc_app i1 (abc_way hr hc hp), by omega, k1⟩
/-- the sources of a text -/
def srcs (old new text : List Nat) : List (List Nat) := ((srows old new text).filter fun x => decide (x.2.2 = 0)).map (·.1)
theorem srcs_mem (h : 1 ≤ old.length) (hn : new ≠ []) {text s : List Nat} : s ∈ srcs old new text ↔ result old new s = text := by
  unfold srcs
  rw [List.mem_map]
  constructor
  · rintro ⟨x, hx, rfl⟩
    obtain ⟨h1, h2⟩ := List.mem_filter.mp hx
    have h2 := of_decide_eq_true h2
    rcases (srows_mem h hn text x).mp h1 with ⟨_, e, _⟩ | ⟨z, _⟩
    · exact e
    · omega
  · rintro rfl
    exact ⟨(s, (pnd old new s, 0)), List.mem_filter.mpr ⟨(srows_mem h hn _ _).mpr (src_of s), rfl⟩, rfl⟩
theorem srcs_nd (h : 1 ≤ old.length) (hn : new ≠ []) (text : List Nat) : (srcs old new text).Nodup := by
  unfold srcs List.Nodup
  rw [List.pairwise_map]
  exact (srows_nd h hn text).filter _
theorem srcs_abc (hr : Rp old new) {text : List Nat} (ha : abc text) : ∀ s ∈ srcs old new text, abc s ∧ s.length ≤ 4 * text.length := fun s hs => by
  unfold srcs at hs
  obtain ⟨x, hx, rfl⟩ := List.mem_map.mp hs
  obtain ⟨a, b, _⟩ := srows_good hr text ha x (List.mem_filter.mp hx).1
  exact ⟨a, b⟩
/-! ## the states that can be -/
def addN (l : List (List Nat × Nat)) (x : List Nat × Nat) : List (List Nat × Nat) := if x ∈ l then l else l ++ [x]
def nxL (old new : List Nat) (c : Nat) (S : List (List Nat × Nat)) : List (List Nat × Nat) := S.flatMap fun st => (ways old new st c).map (·.2)
def nxt (old new : List Nat) (c : Nat) (S : List (List Nat × Nat)) : List (List Nat × Nat) := (nxL old new c S).foldl addN []
theorem addN_mem {l : List (List Nat × Nat)} {x y : List Nat × Nat} : y ∈ addN l x ↔ y ∈ l ∨ y = x := by
  unfold addN
  split
  · rename_i hx
    exact ⟨.inl, fun z => z.elim id fun z => by rw [z]; exact hx⟩
  · rw [List.mem_append, List.mem_singleton]
theorem addN_nd {l : List (List Nat × Nat)} {x : List Nat × Nat} (h : l.Nodup) : (addN l x).Nodup := by
  unfold addN
  split
  · exact h
  · rename_i hx
    rw [List.nodup_append]
    refine ⟨h, by simp, fun a ha b hb => ?_⟩
    rw [List.mem_singleton.mp hb]
    intro z; rw [z] at ha; exact hx ha
theorem adds_all : ∀ (L l : List (List Nat × Nat)), l.Nodup → (L.foldl addN l).Nodup ∧ ∀ y, y ∈ L.foldl addN l ↔ y ∈ l ∨ y ∈ L
  | [], l, h => ⟨h, fun y => by simp⟩
  | x :: L, l, h => by
    obtain ⟨a, b⟩ := adds_all L (addN l x) (addN_nd h)
    refine ⟨a, fun y => ?_⟩
    show y ∈ L.foldl addN (addN l x) ↔ _
    rw [b y, addN_mem, List.mem_cons]
    exact ⟨fun z => z.elim (fun z => z.elim .inl fun z => .inr (.inl z)) fun z => .inr (.inr z), fun z => z.elim (fun z => .inl (.inl z)) fun z => z.elim (fun z => .inl (.inr z)) .inr⟩
theorem nxt_nd (c : Nat) (S : List (List Nat × Nat)) : (nxt old new c S).Nodup := (adds_all _ [] List.nodup_nil).1
theorem nxt_mem {c : Nat} {S : List (List Nat × Nat)} {y : List Nat × Nat} : y ∈ nxt old new c S ↔ ∃ st ∈ S, ∃ p, (p, y) ∈ ways old new st c := by
  unfold nxt
  rw [(adds_all _ [] List.nodup_nil).2]
  unfold nxL
  rw [List.mem_flatMap]
  constructor
  · rintro (z | ⟨st, h1, h2⟩)
    · cases z
    · obtain ⟨w, hw, rfl⟩ := List.mem_map.mp h2
      exact ⟨st, h1, w.1, hw⟩
  · rintro ⟨st, h1, p, hp⟩
    exact .inr ⟨st, h1, List.mem_map.mpr ⟨(p, y), hp, rfl⟩⟩
theorem nxt_ok (h : 1 ≤ old.length) {c : Nat} {S : List (List Nat × Nat)} (hS : ∀ st ∈ S, OkSt old new st) : ∀ y ∈ nxt old new c S, OkSt old new y := fun y hy => by
  obtain ⟨st, h1, p, hp⟩ := nxt_mem.mp hy
  exact (okSt_ways h (hS st h1) hp).1
theorem ok_len (hr : Rp old new) {S : List (List Nat × Nat)} (hS : ∀ st ∈ S, OkSt old new st) (hn : S.Nodup) : S.length ≤ 8 := by
  have h1 := nd_le S (allSt old new) hn fun st hs => okSt_all (hS st hs)
  have h2 : (allSt old new).length = old.length + new.length := by
    unfold allSt
    rw [List.length_append, List.length_map, List.length_map, List.length_range, List.length_range]
  have := hr.o4
  have := hr.n4
  omega
/-- what is known about the states after r -/
def StsOk (old new r : List Nat) (S : List (List Nat × Nat)) : Prop := S.Nodup ∧ ∀ st, st ∈ S ↔ ∃ s, Src old new r s st
theorem sts_ok (h : 1 ≤ old.length) {r : List Nat} {S : List (List Nat × Nat)} (H : StsOk old new r S) : ∀ st ∈ S, OkSt old new st := fun st hs => by
  obtain ⟨s, hs⟩ := (H.2 st).mp hs
  exact src_ok h hs
theorem sts_nil (h : 1 ≤ old.length) (hn : new ≠ []) : StsOk old new [] [([], 0)] := ⟨by simp, fun st => by
  rw [List.mem_singleton]
  constructor
  · rintro rfl; exact ⟨[], (src_nil h hn).mpr ⟨rfl, rfl⟩⟩
  · rintro ⟨s, hs⟩; exact ((src_nil h hn).mp hs).2⟩
theorem sts_next (h : 1 ≤ old.length) (hn : new ≠ []) {r : List Nat} {c : Nat} {S S' : List (List Nat × Nat)} (H : StsOk old new r S) (hp : S'.Perm (nxt old new c S)) : StsOk old new (r ++ [c]) S' := by
  refine ⟨hp.nodup_iff.mpr (nxt_nd c S), fun st => ?_⟩
  rw [hp.mem_iff, nxt_mem]
  constructor
  · rintro ⟨st0, h1, p, hpw⟩
    obtain ⟨s, hs⟩ := (H.2 st0).mp h1
    exact ⟨s ++ p, src_go h hs hpw⟩
  · rintro ⟨s, hs⟩
    obtain ⟨s0, st0, p, h1, h2, _⟩ := src_back h hn hs
    exact ⟨st0, (H.2 st0).mpr ⟨s0, h1⟩, p, h2⟩
theorem sts_any (h : 1 ≤ old.length) (hn : new ≠ []) {r : List Nat} {S : List (List Nat × Nat)} (H : StsOk old new r S) : (S.any fun st => decide (st.2 = 0)) = !(srcs old new r).isEmpty := by
  rw [Bool.eq_iff_iff]
  constructor
  · intro z
    obtain ⟨st, h1, h2⟩ := List.any_eq_true.mp z
    have h2 := of_decide_eq_true h2
    obtain ⟨s, hs⟩ := (H.2 st).mp h1
    rcases hs with ⟨_, e, _⟩ | ⟨z, _⟩
    · have := (srcs_mem h hn).mpr e
      cases hq : srcs old new r with
      | nil => rw [hq] at this; cases this
      | cons a b => rfl
    · omega
  · intro z
    cases hq : srcs old new r with
    | nil => rw [hq] at z; cases z
    | cons a b =>
      have ha : a ∈ srcs old new r := by rw [hq]; exact List.mem_cons_self
      have e := (srcs_mem h hn).mp ha
      exact List.any_eq_true.mpr ⟨(pnd old new a, 0), (H.2 _).mpr ⟨a, by rw [← e]; exact src_of a⟩, rfl⟩
/-! ## the guesses -/
inductive Gs (old new : List Nat) : List Nat → List Nat → Prop
  | nil : Gs old new [] []
  | lit {c t s} : Gs old new t s → Gs old new (c :: t) (c :: s)
  | put {t s} : Gs old new t s → Gs old new (new ++ t) (old ++ s)
theorem gs_result (h : 1 ≤ old.length) : ∀ (n : Nat) (s : List Nat), s.length = n → Gs old new (result old new s) s := by
  intro n
  induction n using Nat.strongRecOn with
  | _ n ih =>
    intro s hs
    have hne : old ≠ [] := fun z => by rw [z] at h; cases h
    cases s with
    | nil =>
      have e2 : result old new [] = [] := rsl_short (by rw [List.length_nil]; omega)
      rw [e2]; exact .nil
    | cons c r =>
      by_cases hp : old <+: (c :: r)
      · have e2 : result old new (c :: r) = new ++ result old new ((c :: r).drop old.length) := rsl_yes hne hp
        have hl := hp.length_le
        have hd : ((c :: r).drop old.length).length = (c :: r).length - old.length := List.length_drop
        have := ih _ (by rw [← hs, hd]; omega) ((c :: r).drop old.length) rfl
        rw [e2]
        obtain ⟨q, hq⟩ := hp
        rw [← hq] at this ⊢
        rw [List.drop_left] at this ⊢
        exact .put this
      · have e2 : result old new (c :: r) = c :: result old new r := rsl_no hp
        rw [e2]
        exact .lit (ih r.length (by rw [← hs, List.length_cons]; omega) r rfl)
abbrev GR := List Nat × Nat
def grow (old new text : List Nat) (x : GR) : List GR := if x.2 = text.length then [] else (x.1 ++ [text.getD x.2 0], x.2 + 1) :: (if (text.drop x.2).take new.length = new then [(x.1 ++ old, x.2 + new.length)] else [])
def gfnd (text : List Nat) (rows : List GR) : List (List Nat) := (rows.filter fun x => decide (x.2 = text.length)).map (·.1)
def gall (old new text : List Nat) : Nat → List GR → List (List Nat)
  | 0, _ => []
  | n + 1, rows => gfnd text rows ++ gall old new text n (rows.flatMap (grow old new text))
theorem gall_nil (text : List Nat) : ∀ n, gall old new text n [] = []
  | 0 => rfl
  | n + 1 => by
    show gfnd text [] ++ gall old new text n [] = []
    rw [gall_nil text n]; rfl
theorem gs_nil (hn : new ≠ []) {u s : List Nat} (h : Gs old new u s) : u = [] → s = [] := by
  cases h with
  | nil => intro _; rfl
  | lit g => intro z; cases z
  | put g =>
    intro z
    exact absurd (List.append_eq_nil_iff.mp z).1 hn
theorem getD_drop {text t : List Nat} {c p : Nat} (h : text.drop p = c :: t) : text.getD p 0 = c ∧ text.drop (p + 1) = t := by
  have e : text[p]? = some c := by
    have := congrArg (fun l => l[0]?) h
    simpa [List.getElem?_drop] using this
  constructor
  · rw [List.getD_eq_getElem?_getD, e]; rfl
  · have := congrArg (List.drop 1) h
    rw [List.drop_drop] at this
    simpa using this
theorem gall_all (hn : new ≠ []) {text : List Nat} : ∀ (n : Nat) (rows : List GR) (b s u : List Nat) (p : Nat), (b, p) ∈ rows → p ≤ text.length → text.length + 1 ≤ n + p → Gs old new u s → u = text.drop p → b ++ s ∈ gall old new text n rows
  | 0, rows, b, s, u, p, _, h1, h2, _, _ => by omega
  | n + 1, rows, b, s, u, p, hm, h1, h2, hg, hu => by
    show b ++ s ∈ gfnd text rows ++ gall old new text n (rows.flatMap (grow old new text))
    rw [List.mem_append]
    by_cases hp : p = text.length
    · left
      rw [hp, List.drop_length] at hu
      rw [gs_nil hn hg hu, List.append_nil]
      exact List.mem_map.mpr ⟨(b, p), List.mem_filter.mpr ⟨hm, decide_eq_true hp⟩, rfl⟩
    · right
      have hgr : grow old new text (b, p) = (b ++ [text.getD p 0], p + 1) :: (if (text.drop p).take new.length = new then [(b ++ old, p + new.length)] else []) := if_neg hp
      cases hg with
      | nil =>
        have := List.drop_eq_nil_iff.mp hu.symm
        omega
      | @lit c t s g =>
        obtain ⟨e1, e2⟩ := getD_drop hu.symm
        have := gall_all hn n (rows.flatMap (grow old new text)) (b ++ [c]) s t (p + 1) (List.mem_flatMap.mpr ⟨(b, p), hm, by rw [hgr, e1]; exact List.mem_cons_self⟩) (by omega) (by omega) g e2.symm
        rwa [List.append_assoc] at this
      | @put t s g =>
        have hl := congrArg List.length hu
        rw [List.length_append, List.length_drop] at hl
        have hnl : 1 ≤ new.length := List.length_pos_iff.mpr hn
        have e2 : text.drop (p + new.length) = t := by rw [← List.drop_drop, ← hu, List.drop_left]
        have := gall_all hn n (rows.flatMap (grow old new text)) (b ++ old) s t (p + new.length) (List.mem_flatMap.mpr ⟨(b, p), hm, by
          rw [hgr, if_pos (by rw [← hu, List.take_left])]
          exact List.mem_cons_of_mem _ List.mem_cons_self⟩) (by omega) (by omega) g e2.symm
        rwa [List.append_assoc] at this
def GRok (text : List Nat) (x : GR) : Prop := abc x.1 ∧ x.2 ≤ text.length ∧ x.1.length ≤ 4 * x.2
theorem grow_ok (hr : Rp old new) (hn : new ≠ []) {text : List Nat} (ha : abc text) {x : GR} (hx : GRok text x) : ∀ y ∈ grow old new text x, GRok text y ∧ x.2 + 1 ≤ y.2 := by
  obtain ⟨h1, h2, h3⟩ := hx
  have ho4 := hr.o4
  have hnl : 1 ≤ new.length := List.length_pos_iff.mpr hn
  intro y hy
  unfold grow at hy
  split at hy
  · cases hy
  · rename_i hp
    have hlt : x.2 < text.length := by omega
    rcases List.mem_cons.mp hy with e | hy
    · rw [e]
      refine ⟨⟨abc_app h1 (abc_cons ?_ abc_nil), by show x.2 + 1 ≤ _; omega, ?_⟩, Nat.le_refl _⟩
      · rw [List.getD_eq_getElem?_getD, List.getElem?_eq_getElem hlt]
        exact ha _ (List.getElem_mem hlt)
      · rw [List.length_append, List.length_singleton]; show _ ≤ 4 * (x.2 + 1); omega
    · split at hy
      · rename_i ht
        rw [List.mem_singleton.mp hy]
        have hl := congrArg List.length ht
        rw [List.length_take, List.length_drop] at hl
        refine ⟨⟨abc_app h1 hr.oa, by show x.2 + new.length ≤ _; omega, ?_⟩, by show _ ≤ x.2 + new.length; omega⟩
        rw [List.length_append]; show _ ≤ 4 * (x.2 + new.length); omega
      · cases hy
theorem gall_ok (hr : Rp old new) (hn : new ≠ []) {text : List Nat} (ha : abc text) : ∀ (n : Nat) (rows : List GR), (∀ x ∈ rows, GRok text x) → ∀ g ∈ gall old new text n rows, abc g ∧ g.length ≤ 4 * text.length
  | 0, rows, _, g, hg => by cases hg
  | n + 1, rows, h, g, hg => by
    have hg : g ∈ gfnd text rows ++ gall old new text n (rows.flatMap (grow old new text)) := hg
    rcases List.mem_append.mp hg with hg | hg
    · obtain ⟨x, hx, rfl⟩ := List.mem_map.mp hg
      obtain ⟨h1, h2, h3⟩ := h x (List.mem_filter.mp hx).1
      exact ⟨h1, by omega⟩
    · exact gall_ok hr hn ha n _ (fun y hy => by
        obtain ⟨x, hx, hy⟩ := List.mem_flatMap.mp hy
        exact (grow_ok hr hn ha (h x hx) y hy).1) g hg
/-- how many there can be -/
structure Wt (new : List Nat) (L : Nat) (wt : Nat → Nat) : Prop where
  z : 1 ≤ wt 0
  m : ∀ k, wt k ≤ wt (k + 1)
  s : ∀ k, k + 1 ≤ L → wt k + (if new.length ≤ k + 1 then wt (k + 1 - new.length) else 0) ≤ wt (k + 1)
theorem Wt.one {L : Nat} {wt : Nat → Nat} (W : Wt new L wt) : ∀ k, 1 ≤ wt k
  | 0 => W.z
  | k + 1 => Nat.le_trans (W.one k) (W.m k)
def gwt (wt : Nat → Nat) (text : List Nat) (rows : List GR) : Nat := (rows.map fun x => wt (text.length - x.2)).sum
theorem gwt_len {wt : Nat → Nat} (W : Wt new text.length wt) : ∀ rows : List GR, rows.length ≤ gwt wt text rows
  | [] => Nat.le_refl _
  | x :: rows => by
    have h1 := gwt_len W rows
    have h2 := W.one (text.length - x.2)
    show (x :: rows).length ≤ ((x :: rows).map fun x => wt (text.length - x.2)).sum
    rw [List.map_cons, List.sum_cons, List.length_cons]
    have h1 : rows.length ≤ (rows.map fun x => wt (text.length - x.2)).sum := h1
    omega
theorem gwt_step {wt : Nat → Nat} {text : List Nat} (W : Wt new text.length wt) : ∀ rows : List GR, (∀ x ∈ rows, x.2 ≤ text.length) → (gfnd text rows).length + gwt wt text (rows.flatMap (grow old new text)) ≤ gwt wt text rows
  | [], _ => Nat.le_refl _
  | x :: rows, h => by
    have ih := gwt_step W rows fun y hy => h y (List.mem_cons_of_mem _ hy)
    have hx := h x List.mem_cons_self
    have e1 : gwt wt text (x :: rows) = wt (text.length - x.2) + gwt wt text rows := by unfold gwt; rw [List.map_cons, List.sum_cons]
    have e2 : gwt wt text ((x :: rows).flatMap (grow old new text)) = gwt wt text (grow old new text x) + gwt wt text (rows.flatMap (grow old new text)) := by
      unfold gwt; rw [List.flatMap_cons, List.map_append, List.sum_append]
    have e3 : (gfnd text (x :: rows)).length = (if x.2 = text.length then 1 else 0) + (gfnd text rows).length := by
      unfold gfnd
      rw [List.length_map, List.length_map, List.filter_cons]
      by_cases hp : x.2 = text.length
      · rw [if_pos (decide_eq_true hp), if_pos hp, List.length_cons, Nat.add_comm]
      · rw [if_neg (by simpa using hp), if_neg hp, Nat.zero_add]
    rw [e1, e2, e3]
    have key : (if x.2 = text.length then 1 else 0) + gwt wt text (grow old new text x) ≤ wt (text.length - x.2) := by
      unfold grow gwt
      by_cases hp : x.2 = text.length
      · rw [if_pos hp, if_pos hp, hp, Nat.sub_self]
        exact W.z
      · rw [if_neg hp, if_neg hp, Nat.zero_add]
        obtain ⟨k, hk⟩ : ∃ k, text.length - x.2 = k + 1 := ⟨text.length - x.2 - 1, by omega⟩
        have hs := W.s k (by omega)
        rw [hk, List.map_cons, List.sum_cons]
        show wt (text.length - (x.2 + 1)) + _ ≤ _
        rw [show text.length - (x.2 + 1) = k by omega]
        split
        · rename_i ht
          have hl := congrArg List.length ht
          rw [List.length_take, List.length_drop] at hl
          rw [if_pos (by omega)] at hs
          show wt k + (wt (text.length - (x.2 + new.length)) + 0) ≤ _
          rw [show text.length - (x.2 + new.length) = k + 1 - new.length by omega, Nat.add_zero]
          exact hs
        · show wt k + 0 ≤ _
          omega
    omega
theorem gall_len {wt : Nat → Nat} (hr : Rp old new) (hn : new ≠ []) {text : List Nat} (ha : abc text) (W : Wt new text.length wt) : ∀ (n : Nat) (rows : List GR), (∀ x ∈ rows, GRok text x) → (gall old new text n rows).length ≤ gwt wt text rows
  | 0, rows, _ => Nat.zero_le _
  | n + 1, rows, h => by
    have h1 := gwt_step (old := old) W rows fun x hx => (h x hx).2.1
    have h2 := gall_len hr hn ha W n (rows.flatMap (grow old new text)) fun y hy => by
      obtain ⟨x, hx, hy⟩ := List.mem_flatMap.mp hy
      exact (grow_ok hr hn ha (h x hx) y hy).1
    show (gfnd text rows ++ gall old new text n (rows.flatMap (grow old new text))).length ≤ _
    rw [List.length_append]
    omega
def fibW : Nat → Nat
  | 0 => 1
  | 1 => 1
  | k + 2 => fibW (k + 1) + fibW k
theorem fib_mono : ∀ k, fibW k ≤ fibW (k + 1)
  | 0 => Nat.le_refl _
  | k + 1 => by rw [fibW]; omega
theorem fib_le {a b : Nat} (h : a ≤ b) : fibW a ≤ fibW b := by
  induction h with
  | refl => exact Nat.le_refl _
  | step _ ih => exact Nat.le_trans ih (fib_mono _)
theorem wt_two (hn : 1 ≤ new.length) (L : Nat) : Wt new L fun k => 2 ^ k where
  z := Nat.le_refl _
  m k := Nat.pow_le_pow_right (by decide) (Nat.le_succ k)
  s k _ := by
    show 2 ^ k + _ ≤ 2 ^ (k + 1)
    rw [Nat.pow_succ]
    split
    · have : 2 ^ (k + 1 - new.length) ≤ 2 ^ k := Nat.pow_le_pow_right (by decide) (by omega)
      omega
    · omega
theorem wt_fib (hn : 2 ≤ new.length) (L : Nat) : Wt new L fibW where
  z := Nat.le_refl _
  m := fib_mono
  s k _ := by
    split
    · rename_i h
      obtain ⟨j, rfl⟩ : ∃ j, k = j + 1 := ⟨k - 1, by omega⟩
      rw [show j + 1 + 1 = j + 2 from rfl, fibW]
      have := fib_le (show j + 2 - new.length ≤ j by omega)
      omega
    · exact fib_mono k
/-- all the guesses -/
def gsd (old new text : List Nat) : List (List Nat) := gall old new text (text.length + 1) [([], 0)]
theorem gr_start (text : List Nat) : ∀ x ∈ [(([], 0) : GR)], GRok text x := fun x hx => by
  rw [List.mem_singleton.mp hx]
  exact ⟨abc_nil, Nat.zero_le _, Nat.le_refl _⟩
theorem gsd_mem (h : 1 ≤ old.length) (hn : new ≠ []) {s text : List Nat} (e : result old new s = text) : s ∈ gsd old new text := by
  have := gall_all (old := old) hn (text := text) (text.length + 1) [([], 0)] [] s text 0 List.mem_cons_self (Nat.zero_le _) (by omega) (by rw [← e]; exact gs_result h _ s rfl) (by rw [List.drop_zero])
  rwa [List.nil_append] at this
theorem gwt_start {wt : Nat → Nat} {text : List Nat} : gwt wt text [([], 0)] = wt text.length := by
  unfold gwt
  show wt (text.length - 0) + 0 = _
  rw [Nat.sub_zero, Nat.add_zero]
end
end Sw
/-! part SwW -/
set_option Elab.async false
set_option linter.all false
set_option maxRecDepth 100000
set_option maxHeartbeats 4000000
namespace Sw
open PySem PySem.Spec L2
/-! ## P. enumerate of a text and of a list; sorted; in a list; ranges as values -/
/-- the signs of x with their places, in new pairs -/
def Ites (x : Str) : It :=
  ⟨fun i H => i < x.cps.size, fun i H v H' => ∃ T c, v = .ref T ∧ H T = none ∧ H' = upd H T (.tup [.int (i : Nat), .str ⟨#[c]⟩]) ∧ x.cps[i]? = some c, fun i H => i = x.cps.size⟩
theorem turn_enumS {P : Program} {w : World} {K : PySem.W.Frag} {elts : List Expr} {kk : Nat} {tpos : Pos} (x : Str) (t : Tok) (e it : Addr) :
    Turn P w K (.Tuple elts kk tpos) (Ites x) [e, it] e (fun i h => (∃ old, IsEnum h e it ((i : Nat) : Int) old) ∧ h.IsStrIter it (strIterType x) x t i ∧ e ≠ it) where
  mem := by simp
  obj := fun i h st b hb => by
    obtain ⟨⟨old, he⟩, ⟨o, ho, hc, hd⟩, _⟩ := st
    have e' : b = e ∨ b = it := by simpa using hb
    rcases e' with z | z
    · rw [z]; exact ⟨_, he, fun v q => nomatch q⟩
    · rw [z]; exact ⟨o, ho, fun v q => by rw [hd] at q; cases q⟩
  keep := fun i h h' st k => let ⟨⟨old, he⟩, ⟨o, ho, r⟩, hne⟩ := st; ⟨⟨old, k e (by simp) _ he⟩, ⟨o, k it (by simp) o ho, r⟩, hne⟩
  item := by
    intro X hP hw hK hc i pins s σ H E I hf st hg
    subst hP hw hK
    obtain ⟨⟨old, he⟩, hit, hne⟩ := st
    have hlt : i < x.cps.size := hg
    have hh : X.A.in1.handled = none := I.ok.hd hc
    have hel : e < s.heap.objs.size := Heap.lt_size he
    have hil : it < s.heap.objs.size := by obtain ⟨_, q, _⟩ := hit; exact Heap.lt_size q
    refine wpAny_pyNext_enum_itemD (Draws.text hh it x t) he hit hlt hne (by simp; exact hne) fun u h' tk hP ho hit' hT hsz hk => ?_
    obtain ⟨c, t', hcx, rfl⟩ := hP
    refine ⟨_, rfl, wpAny_letOwnedTupleGo_enum (s := { s with heap := h', toks := tk + 1 }) ho fun h'' he' sb => ?_⟩
    have hT2 : h''.get? s.heap.objs.size = some { cls := .type "tuple", data := .seq #[.int i tk, .str ⟨#[c]⟩ t'] } := (sb.2 _ (Nat.ne_of_gt hel)).trans hT
    have new : ObjOk X.prog X.w (upd H s.heap.objs.size (.tup [.int (i : Nat), .str ⟨#[c]⟩])) h'' s.heap.objs.size (.tup [.int (i : Nat), .str ⟨#[c]⟩]) :=
      ⟨by show 2 ≤ sizeLine; decide, [.int i tk, .str ⟨#[c]⟩ t'], .cons ⟨_, rfl⟩ (.cons ⟨_, rfl⟩ .nil), ⟨_, hT2, rfl, _, rfl⟩⟩
    have I1 : Inv X pins σ (upd H s.heap.objs.size (.tup [.int (i : Nat), .str ⟨#[c]⟩])) { s with heap := h'', toks := tk + 1 } :=
      I.turnedNew (t' := tk + 1) (ch := [e, it]) (fun b ob hb q => (sb.2 b (fun z => hb (by simp [z]))).trans (hk b ob (fun z => hb (by simp [z])) (fun z => hb (by simp [z])) q)) hf (Nat.le_refl _) new
    refine ⟨.ref s.heap.objs.size, _, I1, rfl, ⟨_, c, rfl, I.hok.fresh (Nat.le_refl _), rfl, hcx⟩, ⟨⟨.str ⟨#[c]⟩ t', ?_⟩, ?_, hne⟩, fun b hb => ?_⟩
    · have e1 : ((i + 1 : Nat) : Int) = (i : Int) + 1 := by omega
      rw [e1]; exact he'
    · obtain ⟨o, ho2, r⟩ := hit'
      exact ⟨o, (sb.2 it (Ne.symm hne)).trans ho2, r⟩
    · have hb' : b < s.heap.objs.size := by
        have e' : b = e ∨ b = it := by simpa using hb
        rcases e' with z | z
        · rw [z]; exact hel
        · rw [z]; exact hil
      rw [upd_ne (Nat.ne_of_lt hb')]
      exact (hf b hb).1
  done := by
    intro X hP hw hK hc i pins s σ H E I hf st hg
    subst hP hw hK
    obtain ⟨⟨old, he⟩, hit, hne⟩ := st
    have hg : i = x.cps.size := hg
    subst hg
    obtain ⟨f0, f1, f2, f3, f4, f5⟩ := hf it (by simp)
    have hh : X.A.in1.handled = none := I.ok.hd hc
    exact wpAny_pyNext_enum_endD (Draws.text hh it x t) he hit fun h' eb => ⟨rfl, I.turned (t' := s.toks) (fun b o hb q => eb b o hb q) f0 f1 f3 f4 f5⟩
  self := fun A i s Q E st h => let ⟨⟨_, he⟩, _⟩ := st; wpAny_pyIter_enum he h
def iEnumS (ta : TA) : TI := fun σ H R => ta σ H fun vs H1 => ∃ x : Str, vs = [.str x] ∧ R (Ites x) H1
theorem pi_enumS {X : Cx} {e : Expr} {ta : TA} {p pos tpos : Pos} {elts : List Expr} {kk : Nat} (hg : Gl X "enumerate") (hm : X.mg "enumerate" = none) (ha : PA X [e] ta) (hs : starEach [e] X.env = [(false, eval e X.env)] := by rfl) :
    PI X (.Tuple elts kk tpos) (.Call (.Name "enumerate" p) [e] [] pos) (iEnumS ta) := by
  refine ⟨fun pins s σ H R I h => ?_⟩
  refine PyProof.Rows.Call_ (ld_blt I hg hm PyProof.Rows.boot_enumerate (PyProof.Rows.callWith_type1 (thn (ha.run pos pins s σ H _ I h) fun us s1 ⟨vs, H1, I1, r1, q1⟩ => ?_) hs rfl))
  obtain ⟨x, ex, q⟩ := q1
  subst ex
  cases r1 with
  | cons r rr =>
    cases rr
    obtain ⟨t, rfl⟩ := r
    refine call_enumerate_str fun h' he hit hsz hk => wpAny_pyIter_enum he ?_
    have I2 : Inv X pins σ H1 { s1 with heap := h' } := I1.kept (t' := s1.toks) hk
    refine ⟨s1.heap.objs.size + 1, [s1.heap.objs.size + 1, s1.heap.objs.size], _, _, H1, rfl, I2, turn_enumS x t (s1.heap.objs.size + 1) s1.heap.objs.size, ⟨⟨.none, he⟩, hit, Nat.succ_ne_self _⟩, fun b hb => ?_, q⟩
    have e' : b = s1.heap.objs.size + 1 ∨ b = s1.heap.objs.size := by simpa using hb
    have hle : s1.heap.objs.size ≤ b := by
      rcases e' with z | z
      · rw [z]; exact Nat.le_add_right _ _
      · rw [z]; exact Nat.le_refl _
    exact I1.fpOk hle (I1.hok.fresh hle)
/-! over data -/
def enumD (xs : List PyData) : List PyData := xs.zipIdx.map fun p => PyData.tuple [.int (p.2 : Nat), p.1]
theorem enumD_len (xs : List PyData) : (enumD xs).length = xs.length := by unfold enumD; rw [List.length_map, List.length_zipIdx]
theorem enumD_get {xs : List PyData} {i : Nat} {d : PyData} : (enumD xs)[i]? = some d ↔ ∃ x, xs[i]? = some x ∧ d = .tuple [.int (i : Nat), x] := by
  unfold enumD
  rw [List.getElem?_map, List.getElem?_zipIdx]
  cases h : xs[i]? with
  | none => simp
  | some x =>
    simp only [Option.map_some, Option.some.injEq, Nat.zero_add]
    constructor
    · rintro rfl; exact ⟨x, rfl, rfl⟩
    · rintro ⟨_, rfl, rfl⟩; rfl
section
variable {K : PySem.W.Frag} {τ : Tau} {te : TE}
theorem ie_enumS {z : Str} (h : EvS K te τ (.str z)) : IterE K (iEnumS (tCons te tNil)) τ (enumD (signs z)) := fun σ B H hs e R q => h σ B H hs e _ fun v B1 H1 s1 d1 => by
  have d1 : Dd K B1 v (.str z) := d1
  cases d1
  have hl : (enumD (signs z)).length = z.cps.size := by rw [enumD_len]; unfold signs; rw [List.length_map, Array.length_toList]
  refine ⟨z, rfl, q _ B1 H1 s1 ⟨fun i H e hi => by rw [hl] at hi; exact hi, fun H e => by rw [hl]; rfl, fun i H v H' x e hx hy B2 e1 e2 => ?_⟩⟩
  obtain ⟨T, c, rfl, hT, rfl, hc⟩ := hy
  obtain ⟨y, hy, rfl⟩ := enumD_get.mp hx
  unfold signs at hy
  rw [List.getElem?_map, Array.getElem?_toList, hc] at hy
  cases hy
  exact ⟨_, Step.new e2 hT, .tup (.inl (.inl upd_same)) (.cons (.int _) (.cons (.str _) .nil))⟩
theorem ie_enumL {xs : List PyData} (h : EvS K te τ (.list xs)) : IterE K (iEnum K (tCons te tNil)) τ (enumD xs) := fun σ B H hs e R q => h σ B H hs e _ fun v B1 H1 s1 d1 => by
  have d1 : Dd K B1 v (.list xs) := d1
  cases d1 with
  | @lst a vs _ hv ha =>
    have l1 := dps_len ha
    refine ⟨a, vs, rfl, SqL.of (s1.i _ _ hv), q _ B1 H1 s1 ⟨fun i H e hi => ?_, fun H e => ?_, fun i H x H' y e hx hy B3 e1 e2 => ?_⟩⟩
    · rw [enumD_len] at hi
      obtain ⟨v1, hv1, _⟩ := dps_get ha (List.getElem?_eq_getElem hi)
      exact ⟨vs, v1, SqL.of (e _ _ hv), hv1⟩
    · exact ⟨vs, SqL.of (e _ _ hv), by rw [enumD_len]; omega⟩
    · obtain ⟨T1, x1, rfl, hT, rfl, g1⟩ := hy
      obtain ⟨d, hd, rfl⟩ := enumD_get.mp hx
      obtain ⟨w, hw, hdd⟩ := dps_get ha hd
      have z := g1 vs (SqL.of (e _ _ hv))
      rw [hw] at z
      cases z
      exact ⟨_, Step.new e2 hT, .tup (.inl (.inl upd_same)) (.cons (.int _) (.cons (dp_same (e1.trans (same_upd (Same.free e2 hT))) _ _ hdd) .nil))⟩
/-! in -/
theorem lay_plain : ∀ (d : PyData), d.canLay0 = true → PyData.plain d = true := by
  have key : ∀ n (d : PyData), d.depth ≤ n → d.canLay0 = true → PyData.plain d = true := by
    intro n
    induction n with
    | zero =>
      intro d hd hc
      cases d with
      | none => rfl
      | bool b => rfl
      | int i => rfl
      | str x => rfl
      | list xs => simp [PyData.depth] at hd
      | tuple xs => simp [PyData.depth] at hd
      | dict z => simp [PyData.canLay0] at hc
    | succ n ih =>
      intro d hd hc
      have all : ∀ xs : List PyData, PyData.depthAll xs ≤ n → PyData.canLayAll0 xs = true → PyData.plainAll xs = true := by
        intro xs
        induction xs with
        | nil => intro _ _; rfl
        | cons x xs ihx =>
          intro h1 h2
          simp only [PyData.depthAll] at h1
          simp only [PyData.canLayAll0, Bool.and_eq_true] at h2
          simp only [PyData.plainAll, Bool.and_eq_true]
          exact ⟨ih x (by omega) h2.1, ihx (by omega) h2.2⟩
      cases d with
      | none => rfl
      | bool b => rfl
      | int i => rfl
      | str x => rfl
      | list xs =>
        simp only [PyData.depth] at hd
        simp only [PyData.canLay0] at hc
        exact all xs (by omega) hc
      | tuple xs =>
        simp only [PyData.depth] at hd
        simp only [PyData.canLay0] at hc
        exact all xs (by omega) hc
      | dict z => simp [PyData.canLay0] at hc
  exact fun d h => key d.depth d (Nat.le_refl _) h
theorem lay_plains : ∀ (ds : List PyData), PyData.canLayAll0 ds = true → PyData.plainAll ds = true
  | [], _ => rfl
  | d :: ds, h => by
    simp only [PyData.canLayAll0, Bool.and_eq_true] at h
    simp only [PyData.plainAll, Bool.and_eq_true]
    exact ⟨lay_plain d h.1, lay_plains ds h.2⟩
theorem sh_alls {n : Nat} {ds : List PyData} (h : ∀ d ∈ ds, Sh n d) : PyData.canLayAll0 ds = true := (sh_all h).1
theorem od_inL {d : PyData} {xs : List PyData} {n m : Nat} (hd : Sh n d) (hn : n ≤ 32) (hx : ∀ x ∈ xs, Sh m x) : OpD K (rInU K) d (.list xs) (.dt (.bool (xs.any fun z => PyData.eqv z d))) := fun B H v u e h1 h2 Q q =>
  .inr (.inr ⟨d, xs, dd_dp _ _ hd.1 (dp_same e _ _ h1), .inl (dd_dp _ _ (by simpa only [PyData.canLay0] using sh_alls hx) (dp_same e _ _ h2)), lay_plains _ (sh_alls hx), lay_plain _ hd.1, Nat.le_trans hd.2 hn, q _ B H (Step.refl e) (.bl _)⟩)
theorem od_niL {d : PyData} {xs : List PyData} {n m : Nat} (hd : Sh n d) (hn : n ≤ 32) (hx : ∀ x ∈ xs, Sh m x) : OpD K (rNiU K) d (.list xs) (.dt (.bool (!xs.any fun z => PyData.eqv z d))) := fun B H v u e h1 h2 Q q =>
  .inr (.inr ⟨d, xs, dd_dp _ _ hd.1 (dp_same e _ _ h1), .inl (dd_dp _ _ (by simpa only [PyData.canLay0] using sh_alls hx) (dp_same e _ _ h2)), lay_plains _ (sh_alls hx), lay_plain _ hd.1, Nat.le_trans hd.2 hn, q _ B H (Step.refl e) (.bl _)⟩)
theorem od_niU {d : PyData} {xs : List PyData} {n m : Nat} (hd : Sh n d) (hn : n ≤ 32) (hx : ∀ x ∈ xs, Sh m x) : OpD K (rNiU K) d (.tuple xs) (.dt (.bool (!xs.any fun z => PyData.eqv z d))) := fun B H v u e h1 h2 Q q =>
  .inr (.inr ⟨d, xs, dd_dp _ _ hd.1 (dp_same e _ _ h1), .inr (dd_dp _ _ (by simpa only [PyData.canLay0] using sh_alls hx) (dp_same e _ _ h2)), lay_plains _ (sh_alls hx), lay_plain _ hd.1, Nat.le_trans hd.2 hn, q _ B H (Step.refl e) (.bl _)⟩)
end
/-! sorted(list of data) -/
def rSortedD (K : PySem.W.Frag) : List V → Hp → VK → Prop := fun vs H Q => ∃ (a : Addr) (bs : List (V × PyData)), vs = [.ref a] ∧ SqL K H a (bs.map (·.1)) ∧ DpAll K H (bs.map (·.1)) (bs.map (·.2)) ∧ PySem.W.AllAlike (bs.map (·.2)) ∧ PySem.W.Sortable (bs.map (·.2)) ∧ (∀ b ∈ bs, b.2.depth ≤ 32) ∧
  ∀ p, H p = none → Q (.ref p) (upd H p (.lst ((bs.mergeSort (PySem.W.dataLe false (·.2))).map (·.1))))
section
variable {X : Cx}
theorem each_vals : ∀ {bs : List (V × PyData)} {us : List Value}, Vals (bs.map (·.1)) us → PySem.W.EachIs (fun (u : Value) (b : V × PyData) => RelV b.1 u) us bs
  | [], _, h => by cases h; exact .nil
  | b :: bs, _, h => by
    cases h with
    | cons h1 h2 => exact .cons h1 (each_vals h2)
theorem vals_each : ∀ {bs : List (V × PyData)} {us : List Value}, PySem.W.EachIs (fun (u : Value) (b : V × PyData) => RelV b.1 u) us bs → Vals (bs.map (·.1)) us
  | _, _, .nil => .nil
  | _, _, .cons h1 h2 => .cons h1 (vals_each h2)
theorem each_reads {pins : List (Addr × Obj)} {σ : St} {H : Hp} {s : Shared} (I : Inv X pins σ H s) : ∀ {bs : List (V × PyData)} {us : List Value}, Vals (bs.map (·.1)) us → DpAll X.K H (bs.map (·.1)) (bs.map (·.2)) → PySem.W.EachIs (fun (u : Value) (b : V × PyData) => ∃ as, Reads s.heap u b.2 as) us bs
  | [], _, h, _ => by cases h; exact .nil
  | b :: bs, _, h, k => by
    cases h with
    | cons h1 h2 =>
      cases k with
      | cons k1 k2 => exact .cons (Dp.reads I _ _ _ k1 h1) (each_reads I h2 k2)
theorem cr_sortedD {k : Nat} (hr : Room k X.A) : CallR X (.builtin "sorted") (rSortedD X.K) := by
  intro pins s σ H vs us Q I r h
  obtain ⟨a, bs, rfl, hs, hd, hal, hk, hdp, q⟩ := h
  obtain ⟨its, rv, hl, hz⟩ := I.list hs
  have hu := hr.units
  rw [Vals.ref1 r]
  refine PySem.W.sorted_data (enc := fun b : V × PyData => b.2) hl.isList (each_vals rv) (each_reads I rv hd) hal hk (by rw [List.length_map] at hz; exact hz) (fun b hb => by have := hdp b hb; omega) fun out hlen ho => ?_
  obtain ⟨ep, he'⟩ := PyProof.Rows.sortedAll_at s.heap its out.toArray
  refine ⟨.ref _, upd H (s.heap.objs.size + 1) (.lst ((bs.mergeSort (PySem.W.dataLe false (·.2))).map (·.1))), I.laid (t' := s.toks) (fun _ _ => PyProof.Rows.sortedAll_old) (Nat.le_succ _) ⟨?_, out, ep, vals_each ho, he'⟩, rfl, q _ (I.hok.fresh (Nat.le_succ _))⟩
  rw [List.length_map, List.length_mergeSort]
  rw [List.length_map] at hz
  exact hz
end
section
variable {K : PySem.W.Frag}
theorem dps_of_pairs {B : Hp} : ∀ {l : List (V × PyData)}, (∀ b ∈ l, Dd K B b.1 b.2) → DdAll K B (l.map (·.1)) (l.map (·.2))
  | [], _ => .nil
  | b :: l, h => .cons (h b List.mem_cons_self) (dps_of_pairs fun c hc => h c (List.mem_cons_of_mem _ hc))
theorem pairs_of_dps {B : Hp} : ∀ {vs : List V} {ds : List PyData}, DdAll K B vs ds → ∃ l : List (V × PyData), l.map (·.1) = vs ∧ l.map (·.2) = ds ∧ ∀ b ∈ l, Dd K B b.1 b.2
  | _, [], h => by cases h; exact ⟨[], rfl, rfl, fun b hb => by cases hb⟩
  | _, d :: ds, h => by
    cases h with
    | @cons v vs _ _ h1 h2 =>
      obtain ⟨l, e1, e2, h3⟩ := pairs_of_dps h2
      exact ⟨(v, d) :: l, by rw [List.map_cons, e1], by rw [List.map_cons, e2], fun b hb => by
        rcases List.mem_cons.mp hb with rfl | hb
        · exact h1
        · exact h3 b hb⟩
def sortD (ds : List PyData) : List PyData := ds.mergeSort (PySem.W.dataLe false id)
theorem cd_sorted {ds : List PyData} {n : Nat} (hx : ∀ d ∈ ds, Sh n d) (hn : n ≤ 32) (hal : PySem.W.AllAlike ds) (hk : PySem.W.Sortable ds) : CbD K (rSortedD K) [.list ds] (.ls (sortD ds)) := fun B H vs e hv Q q => by
  cases hv with
  | cons h1 h2 =>
    cases h2
    cases h1 with
    | @lst a xs _ g1 a1 =>
      obtain ⟨l, e1, e2, h3⟩ := pairs_of_dps a1
      refine ⟨a, l, rfl, by rw [e1]; exact SqL.of (e _ _ g1), ?_, by rw [e2]; exact hal, by rw [e2]; exact hk, fun b hb => ?_, fun p hp => q _ _ _ (Step.own e hp) ⟨p, _, rfl, hp, upd_same, Same.free e hp, _, rfl, ?_⟩⟩
      · rw [e1, e2]
        exact dds_dp _ _ (sh_alls hx) (dps_same e _ _ a1)
      · have hm : b.2 ∈ ds := by rw [← e2]; exact List.mem_map.mpr ⟨b, hb, rfl⟩
        exact Nat.le_trans (hx _ hm).2 hn
      · have e3 : (l.mergeSort (PySem.W.dataLe false (·.2))).map (·.2) = sortD ds := by
          unfold sortD
          rw [← e2]
          exact List.map_mergeSort (fun a _ b _ => rfl)
        rw [← e3]
        exact dps_of_pairs fun b hb => h3 b ((List.mergeSort_perm _ _).mem_iff.mp hb)
end
/-! i in range(n) -/
def rRng1 : List V → Hp → VK → Prop := fun vs H Q => ∃ n, vs = [V.int n] ∧ ∀ p, H p = none → Q (.ref p) (upd H p (.rng 0 n))
def rNiRg : R2 := fun x y H Q => ∃ i a lo hi, x = V.int i ∧ y = V.ref a ∧ H a = some (.rng lo hi) ∧ Q (.bl (!decide (lo ≤ i ∧ i < hi))) H
section
variable {X : Cx}
theorem cr_rng1 : CallR X (.type "range") rRng1 := by
  intro pins s σ H vs us Q I r h
  obtain ⟨n, rfl, q⟩ := h
  obtain ⟨u, rfl, t, rfl⟩ := vals1 r
  refine call_range_1 ⟨.ref s.heap.objs.size, upd H s.heap.objs.size (.rng 0 n), I.laid (t' := s.toks + 1 + 1) (fun b o e => Heap.get?_push_of_some _ e) (Nat.le_refl _) ?_, rfl, q _ (I.hok.fresh (Nat.le_refl _))⟩
  exact ⟨_, t, _, Heap.get?_push_size _ rfl⟩
theorem op_ni_rng : OpR X (compareOp .NotIn) rNiRg := by
  intro pins s σ H x y v u Q I rx ry h
  obtain ⟨i, a, lo, hi, rfl, rfl, ha, q⟩ := h
  obtain ⟨k, rfl⟩ := rx
  obtain rfl : u = Value.ref a := ry
  obtain ⟨t1, t2, t3, ho⟩ := I.hok a _ ha
  show wpAny _ _ (do return Value.bool (!(← contains (Value.ref a) (Value.int i k)))) _ _ s
  refine wpAny_bind (wpAny_contains_slot (T := "range") ⟨_, ho, rfl⟩ F.slot_range_contains (call_meets F.slot_range_contains ⟨_, ho, rfl⟩ F.entry_range_contains (F.args_range_contains_2 _ _) (q_contains a lo hi i t1 t2 t3 k)
    ⟨ho, wpAny_truthy_bool (wpAny_pure ⟨.bl _, H, I, rfl, ?_⟩)⟩))
  rw [place1]
  exact q
end
section
variable {K : PySem.W.Frag} {τ : Tau} {te tn : TE}
theorem ev_niRng {i n : Int} (h1 : EvS K te τ (.int i)) (h2 : EvS K tn τ (.int n)) : EvX K (tOp rNiRg te (tCB rRng1 (tCons tn tNil))) τ (.dt (.bool (!decide (0 ≤ i ∧ i < n)))) := fun σ B H hs e Q q =>
  h1 σ B H hs e _ fun v B1 H1 s1 d1 => h2 σ B1 H1 (hs.same s1.b) s1.i _ fun u B2 H2 s2 d2 => by
    have d1 : Dd K B1 v (.int i) := d1
    have d2 : Dd K B2 u (.int n) := d2
    cases d1
    cases d2
    exact ⟨n, rfl, fun p hp => ⟨i, p, 0, n, rfl, rfl, upd_same, q _ B2 _ ((s1.trans s2).trans (Step.own s2.i hp)) (.bl _)⟩⟩
end
end Sw
/-! part P12 -/
set_option Elab.async false
set_option linter.all false
set_option maxRecDepth 100000
set_option maxHeartbeats 4000000
namespace Sw
open PySem PySem.Spec L2
local macro_rules | `(tactic| walk_at "sz") => `(tactic| first | assumption | omega | (have hsz := szl; omega) | (have hsz := szl; simp only [List.length_append, List.length_cons, List.length_nil, List.length_take, List.length_drop, List.length_reverse, List.length_map, List.length_range]; omega) | decide)
local macro_rules | `(tactic| walk_at "evF") => `(tactic| fail)
local macro_rules | `(tactic| walk_at "ev1") => `(tactic| first
  | ((with_reducible apply ev_var); exact rfl) | with_reducible exact ev_int | with_reducible exact ev_none | with_reducible exact ev_bool | with_reducible exact ev_str
  | with_reducible exact ea_nil | with_reducible apply ea_cons | with_reducible exact eo_none | with_reducible apply eo_some
  | with_reducible exact et_yes | with_reducible apply et_B | with_reducible apply et_test | with_reducible apply et_not | with_reducible apply et_and | with_reducible apply et_or
  | (refine fun (_ : (_ : Bool) = true) => ?_) | (refine fun (_ : (_ : Bool) = false) => ?_)
  | walk_at "evF"
  | with_reducible apply ev_isi | with_reducible apply ev_op | with_reducible apply ev_cb | with_reducible apply ev_sl | with_reducible apply ev_un | with_reducible apply ev_notV
  | with_reducible apply ev_tup | with_reducible apply ev_lst | ((with_reducible apply EvX.frz); with_reducible apply ev_lst)
  | with_reducible apply ev_revL | with_reducible apply ev_revT | with_reducible apply ev_chain
  | with_reducible exact od_add_int | with_reducible exact od_sub | with_reducible exact od_lt | with_reducible exact od_le | with_reducible exact od_gt | with_reducible exact od_ge | with_reducible exact od_eq_int | with_reducible exact od_ne_int
  | with_reducible exact od_eqT | with_reducible exact od_neT | with_reducible exact od_ltT | with_reducible exact od_eq_bool | with_reducible exact od_ne_bool | with_reducible exact od_isN | with_reducible exact od_ntN | with_reducible exact od_isB | with_reducible exact od_ntB
  | with_reducible refine od_addT ?_ | ((with_reducible apply od_ix_tup); exact rfl) | ((with_reducible apply od_ix_list); exact rfl)
  | with_reducible exact cd_lenL | with_reducible exact cd_lenU | with_reducible exact cd_lenS | with_reducible refine cd_lenT ?_ | with_reducible refine cd_lenZ ?_ | with_reducible exact cd_max2 | with_reducible exact cd_min2 | with_reducible exact cd_all | with_reducible exact cd_any
  | refine sd_Tn rfl (Int.natCast_add _ _).symm ?_ | refine sd_Tn rfl rfl ?_ | refine sd_TLn rfl ?_ | refine sd_TRn rfl ?_
  | with_reducible refine od_mulT ?_ ?_ ?_ | with_reducible refine OpD.frz (od_mul_list ?_ ?_ ?_)
  | (intro z h; cases h; done) | walk_at "sz")
local macro_rules | `(tactic| walk_at "ev") => `(tactic| repeat' walk_at "ev1")
/-! ## sources.py: one sign more -/
abbrev stD (st : List Nat × Nat) : PyData := .tuple [T st.1, .int (st.2 : Nat)]
abbrev wayD (p : List Nat × (List Nat × Nat)) : PyData := .tuple [T p.1, stD p.2]
def litD (old new p : List Nat) (c : Nat) : PyData := if p ++ [c] = old then .none else T (rds old new p c).1
def F_may_put (ds : List PyData) (sd : SD) : Prop := ∃ old new p, ds = [rep old new, T p] ∧ Rp old new ∧ p.length ≤ 10 ∧ sd = .dt (.bool (mput old new p old))
def F_literal (ds : List PyData) (sd : SD) : Prop := ∃ old new p c, ds = [rep old new, T p, T [c]] ∧ Rp old new ∧ p.length ≤ 10 ∧ sd = .dt (litD old new p c)
def F_after_put (ds : List PyData) (sd : SD) : Prop := ∃ (new e : List Nat) (k : Nat), ds = [T new, T e, .int (k : Nat)] ∧ new.length ≤ 10 ∧ sd = .dt (stD (aput new e k))
def F_ways_on (ds : List PyData) (sd : SD) : Prop := ∃ old new st c, ds = [rep old new, stD st, T [c]] ∧ Rp old new ∧ OkSt old new st ∧ sd = .ls ((ways old new st c).map wayD)
theorem len_may_put : ∀ ds sd, F_may_put ds sd → ds.length = 2 := by rintro _ _ ⟨_, _, _, rfl, _⟩; rfl
theorem len_literal : ∀ ds sd, F_literal ds sd → ds.length = 3 := by rintro _ _ ⟨_, _, _, _, rfl, _⟩; rfl
theorem len_after_put : ∀ ds sd, F_after_put ds sd → ds.length = 3 := by rintro _ _ ⟨_, _, _, rfl, _⟩; rfl
theorem len_ways_on : ∀ ds sd, F_ways_on ds sd → ds.length = 3 := by rintro _ _ ⟨_, _, _, _, rfl, _⟩; rfl
def t_may_put (K : PySem.W.Frag) (W : WX) : TS :=
  (tSeq (tPar 2 3 (tCons (tOp (rIx K) (tVar 0) (tC (.int 0))) (tCons (tVar 1) tNil)))
    (tSeq (tFor (iEnumS (tCons (tVar 2) tNil)) (gTup K 2 (gCons (gName 4) (gCons (gName 5) gNil))) (tSeq (tIfS (tTest (tOp (rEqU K) (tOp (rAddU K) (tVar 3) (tVar 5)) (tVar 2))) (tRet (tOp (rEqU K) (tVar 4) (tOp rSubU (tCB (rLenU K) (tCons (tVar 2) tNil)) (tC (.int 1))))) tNext)
    (tAsg (tOp (rIx K) (tCallS (spD K F_read_sign) (WE W) (tCons (tVar 0) (tCons (tVar 3) (tCons (tVar 5) tNil)))) (tC (.int 0))) (gName 3))))
    (tRet (tC (.bl false)))))
def t_literal (K : PySem.W.Frag) (W : WX) : TS :=
  (tRet (tIf (tTest (tOp (rEqU K) (tOp (rAddU K) (tVar 1) (tVar 2)) (tOp (rIx K) (tVar 0) (tC (.int 0))))) (tC .non) (tOp (rIx K) (tCallS (spD K F_read_sign) (WE W) (tCons (tVar 0) (tCons (tVar 1) (tCons (tVar 2) tNil)))) (tC (.int 0)))))
def t_after_put (K : PySem.W.Frag) (W : WX) : TS :=
  (tRet (tTup (tCons (tVar 1) (tCons (tIf (tTest (tOp (rEqU K) (tVar 2) (tCB (rLenU K) (tCons (tVar 0) tNil)))) (tC (.int 0)) (tVar 2)) tNil))))
def t_ways_on (K : PySem.W.Frag) (W : WX) : TS :=
  (tSeq (tAsg (tVar 1) (gTup K 2 (gCons (gName 3) (gCons (gName 4) gNil))))
    (tSeq (tAsg (tOp (rIx K) (tVar 0) (tC (.int 1))) (gName 5))
    (tSeq (tIfS (tTest (tOp rGtU (tVar 4) (tC (.int 0)))) (tRet (tIf (tTest (tOp (rEqU K) (tOp (rIx K) (tVar 5) (tVar 4)) (tVar 2))) (tLst (tCons (tTup (tCons (tC (.str (tx []))) (tCons (tCallS (spD K F_after_put) (WE W) (tCons (tVar 5) (tCons (tVar 3) (tCons (tOp (rAddU K) (tVar 4) (tC (.int 1))) tNil)))) tNil))) tNil)) (tLst tNil))) tNext)
    (tSeq (tPar 6 7 (tCons (tCallS (spD K F_literal) (WE W) (tCons (tVar 0) (tCons (tVar 3) (tCons (tVar 2) tNil)))) (tCons (tLst tNil) tNil)))
    (tSeq (tIfS (tTest (tOp rNtU (tVar 6) (tC .non))) (tDrop (tBM K "list" rAppend (tVar 7) (tCons (tTup (tCons (tVar 2) (tCons (tTup (tCons (tVar 6) (tCons (tC (.int 0)) tNil))) tNil))) tNil))) tNext)
    (tSeq (tIfS (tAnd (tTest (tOp (rEqU K) (tSl (rSlU K) (tVar 5) tNoPart (tPart (tC (.int 1)))) (tVar 2))) (tB (tCallS (spD K F_may_put) (WE W) (tCons (tVar 0) (tCons (tVar 3) tNil))))) (tDrop (tBM K "list" rAppend (tVar 7) (tCons (tTup (tCons (tOp (rIx K) (tVar 0) (tC (.int 0))) (tCons (tCallS (spD K F_after_put) (WE W) (tCons (tVar 5) (tCons (tC (.str (tx []))) (tCons (tC (.int 1)) tNil)))) tNil))) tNil))) tNext)
    (tRet (tVar 7))))))))
section
variable {K : PySem.W.Frag} {W : WX} {w : World} {ds : List PyData} {sd : SD} {τ : Tau} {ta tb tc : TE} {E : St → XK}
theorem drop_get'' {l : List Nat} {i c : Nat} (h : l[i]? = some c) : l.drop i = c :: l.drop (i + 1) := by
  obtain ⟨h1, h2⟩ := List.getElem?_eq_some_iff.mp h
  rw [List.drop_eq_getElem_cons h1, h2]
theorem ws_may_put (h : F_may_put ds sd) : WS K (t_may_put K W) (startD 6 ds) (retE W sd) := by
  obtain ⟨old, new, p, rfl, hr, hp, rfl⟩ := h
  have ho4 := hr.o4
  have ho1 := hr.o1
  show WS K (t_may_put K W) [.dt (rep old new), .dt (T p), .no, .no, .no, .no] _
  unfold t_may_put
  refine ws_seq (ws_par (s1 := .dt (T old)) (s2 := .dt (T p)) (ev_op (ev_var rfl) ev_int (od_ix_tup rfl)) (ev_var rfl) ?_)
  refine ws_seq (ws_for (ie_enumS (ev_var rfl)) (fun i τ => ∃ q x4 x5, τ = [.dt (rep old new), .dt (T p), .dt (T old), .dt (T q), x4, x5] ∧ mput old new p old = mput old new q (old.drop i) ∧ q.length ≤ 10) ⟨p, _, _, rfl, rfl, hp⟩ ?_ ?_)
  · rintro i x τ hx ⟨q, x4, x5, rfl, hm, hq⟩
    obtain ⟨y, hy, rfl⟩ := enumD_get.mp hx
    obtain ⟨c, hc, rfl⟩ := signs_get hy
    have hil := (List.getElem?_eq_some_iff.mp hc).1
    rw [drop_get'' hc] at hm
    have hm : mput old new p old = if q ++ [c] = old then (old.drop (i + 1)).isEmpty else mput old new (rds old new q c).1 (old.drop (i + 1)) := hm
    refine ⟨_, tg_tup (tgs_cons tg_name (tgs_cons tg_name tgs_nil)) rfl, ?_⟩
    refine ws_seq (ws_if (b := decide (q ++ [c] = old)) (et_test (ev_op (ev_op (ev_var rfl) (ev_var rfl) (od_addT (by have := szl; show q.length + 1 ≤ sizeLine; omega))) (ev_var rfl) od_eqT)) (fun hb => ?_) (fun hb => ws_next ?_))
    · rw [if_pos (of_decide_eq_true hb)] at hm
      refine ws_ret (ev_op (ev_var rfl) (ev_op (ev_cb (ea_cons (ev_var rfl) ea_nil) (cd_lenT (by have := szl; omega))) ev_int od_sub) od_eq_int) ?_
      show SD.dt (.bool (decide (((i : Nat) : Int) = (old.length : Int) - 1))) = SD.dt (.bool (mput old new p old))
      rw [hm]
      congr 2
      rw [Bool.eq_iff_iff, List.isEmpty_iff, List.drop_eq_nil_iff, decide_eq_true_iff]
      omega
    · rw [if_neg (of_decide_eq_false hb)] at hm
      have hl := (pre_rds (new := new) (p := q) (c := c) ho1).2
      exact ws_set (ev_op (e_read_sign (ev_var rfl) (ev_var rfl) (ev_var rfl) hr (by omega)) ev_int (od_ix_tup rfl)) ⟨(rds old new q c).1, _, _, rfl, hm, by omega⟩
  · rintro τ ⟨q, x4, x5, rfl, hm, hq⟩
    have hl : (enumD (signs (tx old))).length = old.length := by rw [enumD_len, signs_tx, List.length_map]
    rw [hl, List.drop_length] at hm
    refine ws_ret ev_bool ?_
    show SD.dt (.bool false) = SD.dt (.bool (mput old new p old))
    rw [hm]
    rfl
theorem e_may_put {old new p : List Nat} (ha : EvS K ta τ (rep old new)) (hb : EvS K tb τ (T p)) (h : Rp old new) (hp : p.length ≤ 10) : EvX K (tCallS (spD K F_may_put) E (tCons ta (tCons tb tNil))) τ (.dt (.bool (mput old new p old))) :=
  ev_call (ea_cons ha (ea_cons hb ea_nil)) ⟨old, new, p, rfl, h, hp, rfl⟩
theorem ws_literal (h : F_literal ds sd) : WS K (t_literal K W) (startD 3 ds) (retE W sd) := by
  obtain ⟨old, new, p, c, rfl, hr, hp, rfl⟩ := h
  show WS K (t_literal K W) [.dt (rep old new), .dt (T p), .dt (T [c])] _
  unfold t_literal
  refine ws_ret (sd := .dt (litD old new p c)) (ev_if (b := decide (p ++ [c] = old)) (et_test (ev_op (ev_op (ev_var rfl) (ev_var rfl) (od_addT (by have := szl; show p.length + 1 ≤ sizeLine; omega))) (ev_op (ev_var rfl) ev_int (od_ix_tup rfl)) od_eqT)) (fun hb => ?_) (fun hb => ?_)) rfl
  · unfold litD
    rw [if_pos (of_decide_eq_true hb)]
    exact ev_none
  · unfold litD
    rw [if_neg (of_decide_eq_false hb)]
    exact ev_op (e_read_sign (ev_var rfl) (ev_var rfl) (ev_var rfl) hr (by omega)) ev_int (od_ix_tup rfl)
theorem e_literal {old new p : List Nat} {c : Nat} (ha : EvS K ta τ (rep old new)) (hb : EvS K tb τ (T p)) (hc : EvS K tc τ (T [c])) (h : Rp old new) (hp : p.length ≤ 10) : EvX K (tCallS (spD K F_literal) E (tCons ta (tCons tb (tCons tc tNil)))) τ (.dt (litD old new p c)) :=
  ev_call (ea_cons ha (ea_cons hb (ea_cons hc ea_nil))) ⟨old, new, p, c, rfl, h, hp, rfl⟩
theorem ws_after_put (h : F_after_put ds sd) : WS K (t_after_put K W) (startD 3 ds) (retE W sd) := by
  obtain ⟨new, e, k, rfl, hn, rfl⟩ := h
  show WS K (t_after_put K W) [.dt (T new), .dt (T e), .dt (.int (k : Nat))] _
  unfold t_after_put
  refine ws_ret (ev_tup (ds := [T e, .int ((if k = new.length then 0 else k : Nat) : Int)]) (ea_cons (ev_var rfl) (ea_cons (ev_if (b := decide (k = new.length)) (et_is (et_test (ev_op (ev_var rfl) (ev_cb (ea_cons (ev_var rfl) ea_nil) (cd_lenT (by have := szl; omega))) od_eq_int)) ?_) (fun hb => ?_) (fun hb => ?_)) ea_nil)) (by show 2 ≤ sizeLine; decide)) rfl
  · rw [Bool.eq_iff_iff, decide_eq_true_iff, decide_eq_true_iff]; omega
  · rw [if_pos (of_decide_eq_true hb)]; exact ev_int
  · rw [if_neg (of_decide_eq_false hb)]; exact ev_var rfl
theorem e_after_put {new e : List Nat} {k : Nat} {i : Int} (ha : EvS K ta τ (T new)) (hb : EvS K tb τ (T e)) (hc : EvS K tc τ (.int i)) (hi : i = (k : Int)) (hn : new.length ≤ 10) : EvX K (tCallS (spD K F_after_put) E (tCons ta (tCons tb (tCons tc tNil)))) τ (.dt (stD (aput new e k))) := by
  subst hi
  exact ev_call (ea_cons ha (ea_cons hb (ea_cons hc ea_nil))) ⟨new, e, k, rfl, hn, rfl⟩
theorem atI_nat {l : List Nat} {k c : Nat} (h : l[k]? = some c) : atI l (k : Int) = some c := by
  have hl := (List.getElem?_eq_some_iff.mp h).1
  unfold atI ixN
  rw [if_pos (by omega), if_pos (by omega)]
  show l[((k : Nat) : Int).toNat]? = _
  rw [Int.toNat_natCast]
  exact h
theorem ws_ways_on (h : F_ways_on ds sd) : WS K (t_ways_on K W) (startD 8 ds) (retE W sd) := by
  obtain ⟨old, new, st, c, rfl, hr, hs, rfl⟩ := h
  have ho4 := hr.o4
  have hn4 := hr.n4
  have hpl := hs.1.2
  obtain ⟨p, k⟩ := st
  have hpl : p.length < old.length := hpl
  show WS K (t_ways_on K W) [.dt (rep old new), .dt (stD (p, k)), .dt (T [c]), .no, .no, .no, .no, .no] _
  unfold t_ways_on
  refine ws_seq (ws_asg (ev_var rfl) (tg_tup (tgs_cons tg_name (tgs_cons tg_name tgs_nil)) rfl) ?_)
  refine ws_seq (ws_set (ev_op (ev_var rfl) ev_int (od_ix_tup rfl)) ?_)
  refine ws_seq (ws_if (b := decide (0 < k)) (et_is (et_test (ev_op (ev_var rfl) ev_int od_gt)) (by rw [Bool.eq_iff_iff, decide_eq_true_iff, decide_eq_true_iff]; omega)) (fun hb => ?_) (fun hb => ws_next ?_))
  · have hk : 0 < k := of_decide_eq_true hb
    have hkl : k < new.length := hs.2.elim (fun z => by have z : k = 0 := z; omega) (fun z => z.2)
    have hpe : p = [] := hs.2.elim (fun z => by have z : k = 0 := z; omega) (fun z => z.1)
    subst hpe
    have hg : new[k]? = some new[k] := List.getElem?_eq_getElem hkl
    have hw : ways old new ([], k) c = if new[k]? = some c then [([], aput new [] (k + 1))] else [] := by unfold ways; rw [if_pos (show 0 < ([], k).2 from hk)]
    rw [hg] at hw
    refine ws_ret (sd := .ls ((ways old new ([], k) c).map wayD)) (ev_if (b := decide (new[k] = c)) (et_is (et_test (ev_op (ev_op (ev_var rfl) (ev_var rfl) (od_ixT (by have := szl; omega) (atI_nat hg))) (ev_var rfl) od_eqT)) (by rw [Bool.eq_iff_iff]; simp)) (fun hc => ?_) (fun hc => ?_)) rfl
    · have hc : new[k] = c := of_decide_eq_true hc
      rw [hw, if_pos (by rw [hc])]
      exact ev_lst (ea_cons (ev_tup (ea_cons ev_str (ea_cons (e_after_put (k := k + 1) (ev_var rfl) (ev_var rfl) (ev_op (ev_var rfl) ev_int od_add_int) (by omega) (by omega)) ea_nil)) (by show 2 ≤ sizeLine; decide)) ea_nil) (by show 1 ≤ sizeLine; decide)
    · have hc : new[k] ≠ c := of_decide_eq_false hc
      rw [hw, if_neg (fun z => hc (Option.some.inj z))]
      exact ev_lst ea_nil (Nat.zero_le _)
  · have hk : k = 0 := by have := of_decide_eq_false hb; omega
    subst hk
    have hw : ways old new (p, 0) c = (if p ++ [c] = old then [] else [([c], ((rds old new p c).1, 0))]) ++ (if new.take 1 = [c] ∧ mput old new p old = true then [(old, aput new [] 1)] else []) := by unfold ways; rw [if_neg (show ¬ 0 < (p, 0).2 from Nat.lt_irrefl 0)]
    refine ws_seq (ws_par (s1 := .dt (litD old new p c)) (s2 := .ls []) (e_literal (ev_var rfl) (ev_var rfl) (ev_var rfl) hr (by omega)) (ev_lst ea_nil (Nat.zero_le _)) ?_)
    refine ws_mid (fun τ => τ = [.dt (rep old new), .dt (stD (p, 0)), .dt (T [c]), .dt (T p), .dt (.int ((0 : Nat) : Int)), .dt (T new), .dt (litD old new p c), .ls ((if p ++ [c] = old then [] else [([c], ((rds old new p c).1, 0))] : List (List Nat × (List Nat × Nat))).map wayD)]) ?_ ?_
    · by_cases hc : p ++ [c] = old
      · rw [if_pos hc]
        have e : litD old new p c = .none := by unfold litD; rw [if_pos hc]
        rw [e]
        exact ws_if (b := false) (et_test (ev_is (ev_op (ev_var rfl) ev_none od_ntN) rfl)) (fun z => Bool.noConfusion z) fun _ => ws_next rfl
      · rw [if_neg hc]
        have e : litD old new p c = T (rds old new p c).1 := by unfold litD; rw [if_neg hc]
        rw [e]
        refine ws_if (b := true) (et_test (ev_is (ev_op (ev_var rfl) ev_none od_ntN) rfl)) (fun _ => ?_) (fun z => Bool.noConfusion z)
        exact ws_append (i := 7) rfl (ev_tup (ea_cons (ev_var rfl) (ea_cons (ev_tup (ea_cons (ev_var rfl) (ea_cons ev_int ea_nil)) (by show 2 ≤ sizeLine; decide)) ea_nil)) (by show 2 ≤ sizeLine; decide)) (by show 0 < sizeLine; decide) rfl
    · rintro τ rfl
      have hl1 : (((if p ++ [c] = old then [] else [([c], ((rds old new p c).1, 0))] : List (List Nat × (List Nat × Nat)))).map wayD).length ≤ 1 := by split <;> simp
      refine ws_mid (fun τ => τ = [.dt (rep old new), .dt (stD (p, 0)), .dt (T [c]), .dt (T p), .dt (.int ((0 : Nat) : Int)), .dt (T new), .dt (litD old new p c), .ls ((ways old new (p, 0) c).map wayD)]) ?_ ?_
      · rw [hw, List.map_append]
        refine ws_if (b := decide (new.take 1 = [c]) && mput old new p old) (et_and (et_test (ev_op (ev_sl (ev_var rfl) eo_none (eo_some ev_int) (sd_TRn (a := 1) rfl (by have := szl; omega))) (ev_var rfl) od_eqT)) fun _ => et_B (e_may_put (ev_var rfl) (ev_var rfl) hr (by omega))) (fun hb => ?_) (fun hb => ws_next ?_)
        · rw [Bool.and_eq_true, decide_eq_true_iff] at hb
          rw [if_pos hb]
          exact ws_append (i := 7) rfl (ev_tup (ea_cons (ev_op (ev_var rfl) ev_int (od_ix_tup rfl)) (ea_cons (e_after_put (k := 1) (ev_var rfl) ev_str ev_int rfl (by omega)) ea_nil)) (by show 2 ≤ sizeLine; decide)) (by have := szl; omega) rfl
        · have hb2 : ¬ (new.take 1 = [c] ∧ mput old new p old = true) := fun z => by
            rw [decide_eq_true z.1, z.2] at hb; cases hb
          rw [if_neg hb2, List.map_nil, List.append_nil]
      · rintro τ rfl
        exact ws_retV (i := 7) rfl (fun z => nomatch z) rfl
theorem e_ways_on {old new : List Nat} {st : List Nat × Nat} {c : Nat} (ha : EvS K ta τ (rep old new)) (hb : EvS K tb τ (stD st)) (hc : EvS K tc τ (T [c])) (h : Rp old new) (hs : OkSt old new st) : EvX K (tCallS (spD K F_ways_on) E (tCons ta (tCons tb (tCons tc tNil)))) τ (.ls ((ways old new st c).map wayD)) :=
  ev_call (ea_cons ha (ea_cons hb (ea_cons hc ea_nil))) ⟨old, new, st, c, rfl, h, hs, rfl⟩
end
end Sw
/-! part P13 -/
set_option Elab.async false
set_option linter.all false
set_option maxRecDepth 100000
set_option maxHeartbeats 4000000
namespace Sw
open PySem PySem.Spec L2
local macro_rules | `(tactic| walk_at "sz") => `(tactic| first | assumption | omega | (have hsz := szl; omega) | (have hsz := szl; simp only [List.length_append, List.length_cons, List.length_nil, List.length_take, List.length_drop, List.length_reverse, List.length_map, List.length_range]; omega) | decide)
local macro_rules | `(tactic| walk_at "evF") => `(tactic| fail)
local macro_rules | `(tactic| walk_at "ev1") => `(tactic| first
  | ((with_reducible apply ev_var); exact rfl) | with_reducible exact ev_int | with_reducible exact ev_none | with_reducible exact ev_bool | with_reducible exact ev_str
  | with_reducible exact ea_nil | with_reducible apply ea_cons | with_reducible exact eo_none | with_reducible apply eo_some
  | with_reducible exact et_yes | with_reducible apply et_B | with_reducible apply et_test | with_reducible apply et_not | with_reducible apply et_and | with_reducible apply et_or
  | (refine fun (_ : (_ : Bool) = true) => ?_) | (refine fun (_ : (_ : Bool) = false) => ?_)
  | walk_at "evF"
  | with_reducible apply ev_isi | with_reducible apply ev_op | with_reducible apply ev_cb | with_reducible apply ev_sl | with_reducible apply ev_un | with_reducible apply ev_notV
  | with_reducible apply ev_tup | with_reducible apply ev_lst | ((with_reducible apply EvX.frz); with_reducible apply ev_lst)
  | with_reducible apply ev_revL | with_reducible apply ev_revT | with_reducible apply ev_chain
  | with_reducible exact od_add_int | with_reducible exact od_sub | with_reducible exact od_lt | with_reducible exact od_le | with_reducible exact od_gt | with_reducible exact od_ge | with_reducible exact od_eq_int | with_reducible exact od_ne_int
  | with_reducible exact od_eqT | with_reducible exact od_neT | with_reducible exact od_ltT | with_reducible exact od_eq_bool | with_reducible exact od_ne_bool | with_reducible exact od_isN | with_reducible exact od_ntN | with_reducible exact od_isB | with_reducible exact od_ntB
  | with_reducible refine od_addT ?_ | ((with_reducible apply od_ix_tup); exact rfl) | ((with_reducible apply od_ix_list); exact rfl)
  | with_reducible exact cd_lenL | with_reducible exact cd_lenU | with_reducible exact cd_lenS | with_reducible refine cd_lenT ?_ | with_reducible refine cd_lenZ ?_ | with_reducible exact cd_max2 | with_reducible exact cd_min2 | with_reducible exact cd_all | with_reducible exact cd_any
  | refine sd_Tn rfl (Int.natCast_add _ _).symm ?_ | refine sd_Tn rfl rfl ?_ | refine sd_TLn rfl ?_ | refine sd_TRn rfl ?_
  | with_reducible refine od_mulT ?_ ?_ ?_ | with_reducible refine OpD.frz (od_mul_list ?_ ?_ ?_)
  | (intro z h; cases h; done) | walk_at "sz")
local macro_rules | `(tactic| walk_at "ev") => `(tactic| repeat' walk_at "ev1")
/-! ## pairs.py -/
abbrev pnD (x : PN) : PyData := .tuple [T x.1, T x.2.1, stD x.2.2.1, stD x.2.2.2]
abbrev pkD (k : PKy) : PyData := .tuple [stD k.1, stD k.2.1, .bool k.2.2]
def kvK (known : List PKy) : List (PyData × PyData) := known.map fun k => (pkD k, .bool true)
def opairD : Option (List Nat × List Nat) → PyData
  | none => .none
  | some p => .tuple [T p.1, T p.2]
def F_step_pairs (ds : List PyData) (sd : SD) : Prop := ∃ old new x, ds = [rep old new, pnD x] ∧ Rp old new ∧ OkSt old new x.2.2.1 ∧ OkSt old new x.2.2.2 ∧ x.1.length ≤ 2000 ∧ x.2.1.length ≤ 2000 ∧ sd = .ls ((psucc old new x).map pnD)
def F_find_pair (ds : List PyData) (sd : SD) : Prop := ∃ old new, ds = [rep old new] ∧ Rp old new ∧ sd = .dt (opairD (fpair old new))
def F_is_one_to_one (ds : List PyData) (sd : SD) : Prop := ∃ old new, ds = [rep old new] ∧ Rp old new ∧ sd = .dt (.bool (fpair old new).isNone)
theorem len_step_pairs : ∀ ds sd, F_step_pairs ds sd → ds.length = 2 := by rintro _ _ ⟨_, _, _, rfl, _⟩; rfl
theorem len_find_pair : ∀ ds sd, F_find_pair ds sd → ds.length = 1 := by rintro _ _ ⟨_, _, rfl, _⟩; rfl
theorem len_is_one_to_one : ∀ ds sd, F_is_one_to_one ds sd → ds.length = 1 := by rintro _ _ ⟨_, _, rfl, _⟩; rfl
theorem ways_len (old new : List Nat) (st : List Nat × Nat) (c : Nat) : (ways old new st c).length ≤ 2 := by
  unfold ways
  split
  · split <;> simp
  · rw [List.length_append]
    split <;> split <;> simp
theorem stD_inj {a b : List Nat × Nat} (h : stD a = stD b) : a = b := by
  injection h with h
  injection h with h1 h2
  injection h1 with h1
  injection h2 with h2 _
  injection h2 with h2
  exact Prod.ext (tx_inj h1) (by omega)
theorem pkD_inj {a b : PKy} (h : pkD a = pkD b) : a = b := by
  injection h with h
  injection h with h1 h
  injection h with h2 h
  injection h with h3 _
  injection h3 with h3
  exact Prod.ext (stD_inj h1) (Prod.ext (stD_inj h2) h3)
theorem pk_mem {k : PKy} {known : List PKy} : pkD k ∈ (kvK known).map (·.1) ↔ k ∈ known := by
  unfold kvK
  rw [List.map_map, List.mem_map]
  constructor
  · rintro ⟨x, hx, e⟩
    rw [← pkD_inj e]; exact hx
  · intro h; exact ⟨k, h, rfl⟩
section
variable {old new : List Nat}
theorem abc_st (hr : Rp old new) {st : List Nat × Nat} (h : OkSt old new st) : abc st.1 := by
  rw [h.1.1]; exact abc_take _ hr.oa
theorem keyN_st (hr : Rp old new) {st : List Nat × Nat} (h : OkSt old new st) : keyN (stD st) = true := by
  show (keyN (T st.1) && (true && true)) = true
  rw [keyN_T (abc_st hr h)]; rfl
theorem okK_pk (hr : Rp old new) {k : PKy} (h1 : OkSt old new k.1) (h2 : OkSt old new k.2.1) : okK (pkD k) := by
  refine ⟨?_, by simp [PyData.depth, PyData.depthAll]⟩
  show (keyN (stD k.1) && keyN (stD k.2.1)) = true
  rw [keyN_st hr h1, keyN_st hr h2]; rfl
theorem sh_st (hr : Rp old new) {st : List Nat × Nat} (h : OkSt old new st) : Sh 2 (stD st) := sh_tuple fun d hd => by
  simp only [List.mem_cons, List.not_mem_nil, or_false] at hd
  rcases hd with rfl | rfl
  · exact sh_T (abc_st hr h)
  · exact sh_int
/-- a row of the search -/
structure GoodN (old new : List Nat) (i : Nat) (y : PN) : Prop where
  l : OkSt old new y.2.2.1
  r : OkSt old new y.2.2.2
  a : abc y.1
  b : abc y.2.1
  la : y.1.length ≤ 4 * i
  lb : y.2.1.length ≤ 4 * i
theorem GoodN.succ (hr : Rp old new) {i : Nat} {x y : PN} (h : GoodN old new i x) (hy : y ∈ psucc old new x) : GoodN old new (i + 1) y := by
  obtain ⟨c, hc, p, a, q, b, w1, w2, rfl⟩ := psucc_mem.mp hy
  have h1 := okSt_ways hr.o1 h.l w1
  have h2 := okSt_ways hr.o1 h.r w2
  have := hr.o4
  have := h.la
  have := h.lb
  exact ⟨h1.1, h2.1, abc_app h.a (abc_way hr hc w1), abc_app h.b (abc_way hr hc w2), by show (x.1 ++ p).length ≤ _; rw [List.length_append]; omega, by show (x.2.1 ++ q).length ≤ _; rw [List.length_append]; omega⟩
theorem sh_pn (hr : Rp old new) {i : Nat} {x : PN} (h : GoodN old new i x) : Sh 3 (pnD x) := sh_tuple fun d hd => by
  simp only [List.mem_cons, List.not_mem_nil, or_false] at hd
  rcases hd with rfl | rfl | rfl | rfl
  · exact (sh_T h.a).mono (by decide)
  · exact (sh_T h.b).mono (by decide)
  · exact sh_st hr h.l
  · exact sh_st hr h.r
end
def t_step_pairs (K : PySem.W.Frag) (W : WX) : TS :=
  (tSeq (tAsg (tVar 1) (gTup K 4 (gCons (gName 2) (gCons (gName 3) (gCons (gName 4) (gCons (gName 5) gNil))))))
    (tSeq (tAsg (tLst tNil) (gName 6))
    (tSeq (tFor (iStr (tC (.str (tx [97, 98, 99])))) (gName 7) (tFor (iList K (tCallS (spD K F_ways_on) (WE W) (tCons (tVar 0) (tCons (tVar 4) (tCons (tVar 7) tNil))))) (gTup K 2 (gCons (gName 8) (gCons (gName 9) gNil))) (tFor (iList K (tCallS (spD K F_ways_on) (WE W) (tCons (tVar 0) (tCons (tVar 5) (tCons (tVar 7) tNil))))) (gTup K 2 (gCons (gName 10) (gCons (gName 11) gNil))) (tDrop (tBM K "list" rAppend (tVar 6) (tCons (tTup (tCons (tOp (rAddU K) (tVar 2) (tVar 8)) (tCons (tOp (rAddU K) (tVar 3) (tVar 10)) (tCons (tVar 9) (tCons (tVar 11) tNil))))) tNil))))))
    (tRet (tVar 6)))))
def t_find_pair (K : PySem.W.Frag) (W : WX) (w : World) : TS :=
  (tSeq (tIfS (tTest (tOp (rEqU K) (tOp (rIx K) (tVar 0) (tC (.int 1))) (tC (.str (tx []))))) (tRet (tTup (tCons (tC (.str (tx []))) (tCons (tOp (rIx K) (tVar 0) (tC (.int 0))) tNil)))) tNext)
    (tSeq (tPar 1 2 (tCons (tLst (tCons (tTup (tCons (tC (.str (tx []))) (tCons (tC (.str (tx []))) (tCons (tTup (tCons (tC (.str (tx []))) (tCons (tC (.int 0)) tNil))) (tCons (tTup (tCons (tC (.str (tx []))) (tCons (tC (.int 0)) tNil))) tNil))))) tNil)) (tCons (tNDisp K w (tTup (tCons (tTup (tCons (tC (.str (tx []))) (tCons (tC (.int 0)) tNil))) (tCons (tTup (tCons (tC (.str (tx []))) (tCons (tC (.int 0)) tNil))) (tCons (tC (.bl false)) tNil)))) (tC (.bl true))) tNil)))
    (tSeq (tWhile (tTest (tOp (rNeU K) (tVar 1) (tLst tNil))) (tSeq (tAsg (tLst tNil) (gName 3))
    (tSeq (tFor (iList K (tVar 1)) (gName 4) (tFor (iList K (tCallS (spD K F_step_pairs) (WE W) (tCons (tVar 0) (tCons (tVar 4) tNil)))) (gTup K 4 (gCons (gName 5) (gCons (gName 6) (gCons (gName 7) (gCons (gName 8) gNil))))) (tSeq (tAsg (tTup (tCons (tVar 7) (tCons (tVar 8) (tCons (tOp (rNeU K) (tVar 5) (tVar 6)) tNil)))) (gName 9))
    (tIfS (tTest (tOp (rNiD K w) (tVar 9) (tVar 2))) (tSeq (sNPut K w (tVar 2) (tVar 9) (tC (.bl true)))
    (tDrop (tBM K "list" rAppend (tVar 3) (tCons (tTup (tCons (tVar 5) (tCons (tVar 6) (tCons (tVar 7) (tCons (tVar 8) tNil))))) tNil)))) tNext))))
    (tSeq (tFor (iList K (tVar 3)) (gTup K 4 (gCons (gName 5) (gCons (gName 6) (gCons (gName 7) (gCons (gName 8) gNil))))) (tIfS (tAnd (tTest (tOp (rNeU K) (tVar 5) (tVar 6))) (tAnd (tTest (tOp (rEqU K) (tOp (rIx K) (tVar 7) (tC (.int 1))) (tC (.int 0)))) (tTest (tOp (rEqU K) (tOp (rIx K) (tVar 8) (tC (.int 1))) (tC (.int 0)))))) (tRet (tTup (tCons (tCB rMin2U (tCons (tVar 5) (tCons (tVar 6) tNil))) (tCons (tCB rMax2U (tCons (tVar 5) (tCons (tVar 6) tNil))) tNil)))) tNext))
    (tAsg (tVar 3) (gName 1))))))
    (tRet (tC .non)))))
def t_is_one_to_one (K : PySem.W.Frag) (W : WX) : TS :=
  (tSeq (tDrop (tCallS (spD K F_check_replacement) (WE W) (tCons (tVar 0) tNil)))
    (tRet (tOp rIsU (tCallS (spD K F_find_pair) (WE W) (tCons (tVar 0) tNil)) (tC .non))))
section
variable {K : PySem.W.Frag} {W : WX} {w : World} {ds : List PyData} {sd : SD} {τ : Tau} {ta tb tc : TE} {E : St → XK}
theorem take_map_step {α : Type} {l : List α} {i : Nat} {x : α} (h : l[i]? = some x) : l.take (i + 1) = l.take i ++ [x] := by rw [List.take_succ, h]; rfl
theorem ws_step_pairs (h : F_step_pairs ds sd) : WS K (t_step_pairs K W) (startD 12 ds) (retE W sd) := by
  obtain ⟨old, new, ⟨one, oth, l, r⟩, rfl, hr, hl, hrr, h1, h2, rfl⟩ := h
  have ho4 := hr.o4
  have hl : OkSt old new l := hl
  have hrr : OkSt old new r := hrr
  have h1 : one.length ≤ 2000 := h1
  have h2 : oth.length ≤ 2000 := h2
  show WS K (t_step_pairs K W) [.dt (rep old new), .dt (pnD (one, oth, l, r)), .no, .no, .no, .no, .no, .no, .no, .no, .no, .no] _
  unfold t_step_pairs
  refine ws_seq (ws_asg (ev_var rfl) (tg_tup (tgs_cons tg_name (tgs_cons tg_name (tgs_cons tg_name (tgs_cons tg_name tgs_nil)))) rfl) ?_)
  refine ws_seq (ws_set (ev_lst ea_nil (Nat.zero_le _)) ?_)
  have hF : ∀ c, ((ways old new l c).flatMap fun w => (ways old new r c).map fun u => ((one ++ w.1, oth ++ u.1, w.2, u.2) : PN)).length ≤ 4 := fun c => by
    have h := flat_len (l := ways old new l c) (f := fun w => (ways old new r c).map fun u => ((one ++ w.1, oth ++ u.1, w.2, u.2) : PN)) (k := 2) (fun x _ => by rw [List.length_map]; exact ways_len old new r c)
    have := ways_len old new l c
    omega
  refine ws_seq (ws_forN (in_str ev_str) (fun k τ => ∃ x7 x8 x9 x10 x11, τ = [.dt (rep old new), .dt (pnD (one, oth, l, r)), .dt (T one), .dt (T oth), .dt (stD l), .dt (stD r), .ls ((([97, 98, 99].take k).flatMap fun c => (ways old new l c).flatMap fun w => (ways old new r c).map fun u => ((one ++ w.1, oth ++ u.1, w.2, u.2) : PN)).map pnD), x7, x8, x9, x10, x11]) ⟨_, _, _, _, _, rfl⟩ ?_ ?_)
  · rintro k x τ hx ⟨x7, x8, x9, x10, x11, rfl⟩
    obtain ⟨c, hc, rfl⟩ := signs_get hx
    have hk3 : k < 3 := (List.getElem?_eq_some_iff.mp hc).1
    refine ⟨_, tg_name, ?_⟩
    have hpre : ((([97, 98, 99].take k).flatMap fun c => (ways old new l c).flatMap fun w => (ways old new r c).map fun u => ((one ++ w.1, oth ++ u.1, w.2, u.2) : PN))).length ≤ 12 := by
      have h := flat_len (l := [97, 98, 99].take k) (f := fun c => (ways old new l c).flatMap fun w => (ways old new r c).map fun u => ((one ++ w.1, oth ++ u.1, w.2, u.2) : PN)) (k := 4) (fun c _ => hF c)
      have h3 : ([97, 98, 99].take k).length ≤ 3 := by rw [List.length_take]; exact Nat.min_le_right _ _
      omega
    rw [take_map_step hc, List.flatMap_append, List.flatMap_singleton]
    generalize (([97, 98, 99].take k).flatMap fun c => (ways old new l c).flatMap fun w => (ways old new r c).map fun u => ((one ++ w.1, oth ++ u.1, w.2, u.2) : PN)) = pre at hpre ⊢
    refine ws_for (ie_list (EvX.frz (e_ways_on (ev_var rfl) (ev_var rfl) (ev_var rfl) hr hl))) (fun j τ => ∃ x8 x9 x10 x11, τ = [.dt (rep old new), .dt (pnD (one, oth, l, r)), .dt (T one), .dt (T oth), .dt (stD l), .dt (stD r), .ls ((pre ++ (((ways old new l c).take j).flatMap fun w => (ways old new r c).map fun u => ((one ++ w.1, oth ++ u.1, w.2, u.2) : PN))).map pnD), .dt (T [c]), x8, x9, x10, x11]) ⟨_, _, _, _, by rw [List.take_zero, List.flatMap_nil, List.append_nil]; rfl⟩ ?_ ?_
    · rintro j x τ hx ⟨y8, y9, y10, y11, rfl⟩
      obtain ⟨wy, hw, rfl⟩ := map_get hx
      obtain ⟨wp, wst⟩ := wy
      have hwm := List.mem_of_getElem? hw
      have hok := okSt_ways hr.o1 hl hwm
      refine ⟨_, tg_tup (tgs_cons tg_name (tgs_cons tg_name tgs_nil)) rfl, ?_⟩
      have hmid : (pre ++ (((ways old new l c).take j).flatMap fun w => (ways old new r c).map fun u => ((one ++ w.1, oth ++ u.1, w.2, u.2) : PN))).length ≤ 16 := by
        have h := flat_len (l := (ways old new l c).take j) (f := fun w => (ways old new r c).map fun u => ((one ++ w.1, oth ++ u.1, w.2, u.2) : PN)) (k := 2) (fun x _ => by rw [List.length_map]; exact ways_len old new r c)
        have h3 : ((ways old new l c).take j).length ≤ 2 := by rw [List.length_take]; exact Nat.le_trans (Nat.min_le_right _ _) (ways_len old new l c)
        rw [List.length_append]
        omega
      rw [take_map_step hw, List.flatMap_append, List.flatMap_singleton, ← List.append_assoc]
      generalize (pre ++ (((ways old new l c).take j).flatMap fun w => (ways old new r c).map fun u => ((one ++ w.1, oth ++ u.1, w.2, u.2) : PN))) = mid at hmid ⊢
      refine ws_for (ie_list (EvX.frz (e_ways_on (ev_var rfl) (ev_var rfl) (ev_var rfl) hr hrr))) (fun m τ => ∃ x10 x11, τ = [.dt (rep old new), .dt (pnD (one, oth, l, r)), .dt (T one), .dt (T oth), .dt (stD l), .dt (stD r), .ls ((mid ++ (((ways old new r c).take m).map fun u => ((one ++ wp, oth ++ u.1, wst, u.2) : PN))).map pnD), .dt (T [c]), .dt (T wp), .dt (stD wst), x10, x11]) ⟨_, _, by rw [List.take_zero, List.map_nil, List.append_nil]; rfl⟩ ?_ ?_
      · rintro m x τ hx ⟨z10, z11, rfl⟩
        obtain ⟨uy, hu, rfl⟩ := map_get hx
        obtain ⟨up, ust⟩ := uy
        have hum := List.mem_of_getElem? hu
        have huk := okSt_ways hr.o1 hrr hum
        have hul := (List.getElem?_eq_some_iff.mp hu).1
        have hw2 := ways_len old new r c
        refine ⟨_, tg_tup (tgs_cons tg_name (tgs_cons tg_name tgs_nil)) rfl, ?_⟩
        refine ws_append (i := 6) rfl (ev_tup (ea_cons (ev_op (ev_var rfl) (ev_var rfl) (od_addT (by have := szl; have := hok.2; show one.length + wp.length ≤ sizeLine; omega))) (ea_cons (ev_op (ev_var rfl) (ev_var rfl) (od_addT (by have := szl; have := huk.2; show oth.length + up.length ≤ sizeLine; omega))) (ea_cons (ev_var rfl) (ea_cons (ev_var rfl) ea_nil)))) (by show 4 ≤ sizeLine; decide)) (by have := szl; rw [List.length_map, List.length_append, List.length_map, List.length_take]; omega) ⟨.dt (T up), .dt (stD ust), ?_⟩
        rw [take_map_step hu]
        simp only [List.map_append, List.map_cons, List.map_nil, List.append_assoc]
        rfl
      · rintro τ ⟨z10, z11, rfl⟩
        rw [List.length_map, List.take_length]
        exact ⟨_, _, _, _, rfl⟩
    · rintro τ ⟨y8, y9, y10, y11, rfl⟩
      rw [List.length_map, List.take_length]
      exact ⟨_, _, _, _, _, rfl⟩
  · rintro τ ⟨x7, x8, x9, x10, x11, rfl⟩
    exact ws_retV (i := 6) rfl (fun z => nomatch z) rfl
theorem e_step_pairs {old new : List Nat} {x : PN} (ha : EvS K ta τ (rep old new)) (hb : EvS K tb τ (pnD x)) (h : Rp old new) (h1 : OkSt old new x.2.2.1) (h2 : OkSt old new x.2.2.2) (h3 : x.1.length ≤ 2000) (h4 : x.2.1.length ≤ 2000) : EvX K (tCallS (spD K F_step_pairs) E (tCons ta (tCons tb tNil))) τ (.ls ((psucc old new x).map pnD)) :=
  ev_call (ea_cons ha (ea_cons hb ea_nil)) ⟨old, new, x, rfl, h, h1, h2, h3, h4, rfl⟩
theorem cd_min2T {a b : List Nat} : CbD K rMin2U [T a, T b] (.dt (T (if b < a then b else a))) := by
  have h := cd_min2s (K := K) (a := tx a) (b := tx b)
  rw [tx_list, tx_list] at h
  by_cases z : b < a
  · rw [if_pos z] at h ⊢; exact h
  · rw [if_neg z] at h ⊢; exact h
theorem cd_max2T {a b : List Nat} : CbD K rMax2U [T a, T b] (.dt (T (if a < b then b else a))) := by
  have h := cd_max2s (K := K) (a := tx a) (b := tx b)
  rw [tx_list, tx_list] at h
  by_cases z : a < b
  · rw [if_pos z] at h ⊢; exact h
  · rw [if_neg z] at h ⊢; exact h
theorem fold_snoc (L : List PN) (y : PN) (k0 : List PKy × List PN) : (L ++ [y]).foldl pstep k0 = pstep (L.foldl pstep k0) y := by rw [List.foldl_append]; rfl
theorem ws_find_pair (h : F_find_pair ds sd) : WS K (t_find_pair K W w) (startD 10 ds) (retE W sd) := by
  obtain ⟨old, new, rfl, hr, rfl⟩ := h
  have ho4 := hr.o4
  have ho1 := hr.o1
  have hn4 := hr.n4
  show WS K (t_find_pair K W w) [.dt (rep old new), .no, .no, .no, .no, .no, .no, .no, .no, .no] _
  unfold t_find_pair
  refine ws_seq (ws_if (b := decide (new = [])) (et_test (ev_op (ev_op (ev_var rfl) ev_int (od_ix_tup rfl)) ev_str od_eqT)) (fun hb => ?_) (fun hb => ws_next ?_))
  · have hn : new = [] := of_decide_eq_true hb
    refine ws_ret (ev_tup (ea_cons ev_str (ea_cons (ev_op (ev_var rfl) ev_int (od_ix_tup rfl)) ea_nil)) (by show 2 ≤ sizeLine; decide)) ?_
    show SD.dt (.tuple [T [], T old]) = SD.dt (opairD (fpair old new))
    unfold fpair
    rw [if_pos hn]
    rfl
  have hn : new ≠ [] := of_decide_eq_false hb
  have hfp : fpair old new = (pairF old new 200 [pky proot] [proot]).map fun x => (if x.2.1 < x.1 then x.2.1 else x.1, if x.1 < x.2.1 then x.2.1 else x.1) := by unfold fpair; rw [if_neg hn]
  have hg0 : GoodN old new 0 proot := ⟨okSt_nil ho1, okSt_nil ho1, abc_nil, abc_nil, Nat.le_refl _, Nat.le_refl _⟩
  refine ws_seq (ws_par (s1 := .ls [pnD proot]) (s2 := dcN w (kvK [pky proot])) (ev_lst (ea_cons (ev_tup (ea_cons ev_str (ea_cons ev_str (ea_cons (ev_tup (ea_cons ev_str (ea_cons ev_int ea_nil)) (by show 2 ≤ sizeLine; decide)) (ea_cons (ev_tup (ea_cons ev_str (ea_cons ev_int ea_nil)) (by show 2 ≤ sizeLine; decide)) ea_nil)))) (by show 4 ≤ sizeLine; decide)) ea_nil) (by show 1 ≤ sizeLine; decide))
    (ev_ndisp (ev_tup (ea_cons (ev_tup (ea_cons ev_str (ea_cons ev_int ea_nil)) (by show 2 ≤ sizeLine; decide)) (ea_cons (ev_tup (ea_cons ev_str (ea_cons ev_int ea_nil)) (by show 2 ≤ sizeLine; decide)) (ea_cons ev_bool ea_nil))) (by show 3 ≤ sizeLine; decide)) ev_bool (okK_pk (k := pky proot) hr hg0.l hg0.r)) ?_)
  refine ws_frz 1 rfl ?_
  refine ws_seq (ws_while (fun m τ => ∃ (known : List PKy) (level : List PN) (i : Nat) (x3 x4 x5 x6 x7 x8 x9 : SD), τ = [.dt (rep old new), .dt (.list (level.map pnD)), dcN w (kvK known), x3, x4, x5, x6, x7, x8, x9] ∧ pairF old new m known level = pairF old new 200 [pky proot] [proot] ∧
      (∀ x ∈ level, GoodN old new i x) ∧ known.Nodup ∧ (∀ k ∈ known, k ∈ allKy old new) ∧ (level = [] ∨ 128 < m + known.length) ∧ i + m ≤ 200) 200
    ⟨[pky proot], [proot], 0, _, _, _, _, _, _, _, rfl, rfl, fun x hx => by rw [List.mem_singleton.mp hx]; exact hg0, by simp, fun k hk => by rw [List.mem_singleton.mp hk]; exact ky_all hg0.l hg0.r, .inr (by decide), Nat.le_refl _⟩ ?_)
  rintro m τ ⟨known, level, i, x3, x4, x5, x6, x7, x8, x9, rfl, hp, hgl, hnd, hall, hfu, him⟩
  have hk128 : known.length ≤ 128 := Nat.le_trans (nd_le known (allKy old new) hnd hall) (allKy_len hr)
  refine ⟨!level.isEmpty, ?_, fun hb => ?_, fun hb => ?_⟩
  · refine et_test (ev_is (ev_op (ev_var rfl) (EvX.frz (ev_lst ea_nil (Nat.zero_le _))) (od_neD ((sh_list (n := 3) fun d hd => ?_).ok (by decide)) ((sh_list (n := 1) (ds := []) fun d hd => by cases hd).ok (by decide)))) ?_)
    · obtain ⟨t, ht, rfl⟩ := List.mem_map.mp hd
      exact sh_pn hr (hgl t ht)
    · cases level <;> rfl
  · have hne : level ≠ [] := fun z => by rw [z] at hb; cases hb
    have hfu := hfu.resolve_left hne
    obtain ⟨m', rfl⟩ : ∃ m', m = m' + 1 := ⟨m - 1, by omega⟩
    have hp : (if level = [] then none else match (pfold old new known level).2.find? phit with
      | some x => some x
      | none => pairF old new m' (pfold old new known level).1 (pfold old new known level).2) = pairF old new 200 [pky proot] [proot] := hp
    rw [if_neg hne] at hp
    refine ws_seq (ws_set (ev_lst ea_nil (Nat.zero_le _)) ?_)
    -- what a part of the nodes leaves
    have hpart : ∀ L : List PN, (∀ y ∈ L, y ∈ level.flatMap (psucc old new)) → ∃ more, L.foldl pstep (known, []) = (known ++ more.map pky, more) ∧ (∀ y ∈ more, GoodN old new (i + 1) y) ∧ (known ++ more.map pky).Nodup ∧ (∀ k ∈ known ++ more.map pky, k ∈ allKy old new) ∧ more.length ≤ 128 ∧ (known ++ more.map pky).length ≤ 128 := fun L hL => by
      obtain ⟨more, e, h1, h2, _⟩ := fold_step L known [] hnd
      have hg : ∀ y ∈ more, GoodN old new (i + 1) y := fun y hy => by
        obtain ⟨x, hx, hs⟩ := List.mem_flatMap.mp (hL y (h1 y hy))
        exact (hgl x hx).succ hr hs
      have ha : ∀ k ∈ known ++ more.map pky, k ∈ allKy old new := fun k hk => by
        rcases List.mem_append.mp hk with z | z
        · exact hall k z
        · obtain ⟨y, hy, rfl⟩ := List.mem_map.mp z
          exact ky_all (hg y hy).l (hg y hy).r
      have hlen := Nat.le_trans (nd_le _ (allKy old new) h2 ha) (allKy_len hr)
      exact ⟨more, e, hg, h2, ha, by rw [List.length_append, List.length_map] at hlen; omega, hlen⟩
    refine ws_seq (ws_for (ie_list (ev_var rfl)) (fun j τ => ∃ (x4 x5 x6 x7 x8 x9 : SD), τ = [.dt (rep old new), .dt (.list (level.map pnD)), dcN w (kvK (((level.take j).flatMap (psucc old new)).foldl pstep (known, [])).1), .ls ((((level.take j).flatMap (psucc old new)).foldl pstep (known, [])).2.map pnD), x4, x5, x6, x7, x8, x9])
      ⟨_, _, _, _, _, _, rfl⟩ ?_ ?_)
    · rintro j x τ hx ⟨y4, y5, y6, y7, y8, y9, rfl⟩
      obtain ⟨row, hrow, rfl⟩ := map_get hx
      have hrm := List.mem_of_getElem? hrow
      have hgr := hgl row hrm
      refine ⟨_, tg_name, ?_⟩
      have hsub : ∀ y ∈ (level.take j).flatMap (psucc old new), y ∈ level.flatMap (psucc old new) := fun y hy => by
        obtain ⟨x, hx, hs⟩ := List.mem_flatMap.mp hy
        exact List.mem_flatMap.mpr ⟨x, List.mem_of_mem_take hx, hs⟩
      rw [take_map_step hrow, List.flatMap_append, List.flatMap_singleton]
      generalize (level.take j).flatMap (psucc old new) = L at hsub ⊢
      have hla := hgr.la
      have hlb := hgr.lb
      refine ws_for (ie_list (EvX.frz (e_step_pairs (ev_var rfl) (ev_var rfl) hr hgr.l hgr.r (by omega) (by omega)))) (fun q τ => ∃ (x5 x6 x7 x8 x9 : SD), τ = [.dt (rep old new), .dt (.list (level.map pnD)), dcN w (kvK ((L ++ (psucc old new row).take q).foldl pstep (known, [])).1), .ls (((L ++ (psucc old new row).take q).foldl pstep (known, [])).2.map pnD), .dt (pnD row), x5, x6, x7, x8, x9])
        ⟨_, _, _, _, _, by rw [List.take_zero, List.append_nil]; rfl⟩ ?_ ?_
      · rintro q x τ hx ⟨z5, z6, z7, z8, z9, rfl⟩
        obtain ⟨y, hy, rfl⟩ := map_get hx
        have hym := List.mem_of_getElem? hy
        have hgy := hgr.succ hr hym
        have hyl : y ∈ level.flatMap (psucc old new) := List.mem_flatMap.mpr ⟨row, hrm, hym⟩
        refine ⟨_, tg_tup (tgs_cons tg_name (tgs_cons tg_name (tgs_cons tg_name (tgs_cons tg_name tgs_nil)))) rfl, ?_⟩
        have hsub2 : ∀ z ∈ L ++ (psucc old new row).take q, z ∈ level.flatMap (psucc old new) := fun z hz => by
          rcases List.mem_append.mp hz with z1 | z1
          · exact hsub z z1
          · exact List.mem_flatMap.mpr ⟨row, hrm, List.mem_of_mem_take z1⟩
        rw [take_map_step hy, ← List.append_assoc, fold_snoc]
        obtain ⟨more, e, hg, h2, ha, hm1, hm2⟩ := hpart _ hsub2
        rw [e]
        obtain ⟨one, oth, l, r⟩ := y
        have e9 : PyData.tuple [stD l, stD r, .bool (!decide (one = oth))] = pkD (pky (one, oth, l, r)) := by
          show _ = PyData.tuple [stD l, stD r, .bool (decide (one ≠ oth))]
          rw [decide_not]
        refine ws_seq (ws_set (sd := .dt (pkD (pky (one, oth, l, r)))) (ev_is (ev_tup (ea_cons (ev_var rfl) (ea_cons (ev_var rfl) (ea_cons (ev_op (ev_var rfl) (ev_var rfl) od_neT) ea_nil))) (by show 3 ≤ sizeLine; decide)) e9) ?_)
        have hok := okK_pk (k := pky (one, oth, l, r)) hr hgy.l hgy.r
        refine ws_ifNi (kvs := kvK (known ++ more.map pky)) (i := 2) rfl (ev_var rfl) hok (fun hni => ?_) (fun hin => ?_)
        · have hni2 : pky (one, oth, l, r) ∉ known ++ more.map pky := fun z => hni (pk_mem.mpr z)
          have eS : pstep (known ++ more.map pky, more) (one, oth, l, r) = (known ++ more.map pky ++ [pky (one, oth, l, r)], more ++ [(one, oth, l, r)]) := by unfold pstep; rw [if_neg hni2]
          rw [eS]
          refine ws_seq (ws_nput (kvs := kvK (known ++ more.map pky)) (i := 2) rfl (ev_var rfl) hok ev_bool hni (by have := szl; unfold kvK; rw [List.length_map]; omega) ?_)
          refine ws_append (i := 3) rfl (ev_tup (ea_cons (ev_var rfl) (ea_cons (ev_var rfl) (ea_cons (ev_var rfl) (ea_cons (ev_var rfl) ea_nil)))) (by show 4 ≤ sizeLine; decide)) (by have := szl; show (more.map pnD).length < sizeLine; rw [List.length_map]; omega) ⟨.dt (T one), .dt (T oth), .dt (stD l), .dt (stD r), .dt (pkD (pky (one, oth, l, r))), ?_⟩
          have e1 : kvK (known ++ more.map pky) ++ [(pkD (pky (one, oth, l, r)), .bool true)] = kvK (known ++ more.map pky ++ [pky (one, oth, l, r)]) := by unfold kvK; rw [List.map_append (l₁ := known ++ more.map pky)]; rfl
          have e2 : more.map pnD ++ [pnD (one, oth, l, r)] = (more ++ [(one, oth, l, r)]).map pnD := by rw [List.map_append]; rfl
          show _ = [SD.dt (rep old new), .dt (.list (level.map pnD)), dcN w (kvK (known ++ more.map pky ++ [pky (one, oth, l, r)])), .ls ((more ++ [(one, oth, l, r)]).map pnD), .dt (pnD row), .dt (T one), .dt (T oth), .dt (stD l), .dt (stD r), .dt (pkD (pky (one, oth, l, r)))]
          rw [← e1, ← e2]
          rfl
        · have hin2 : pky (one, oth, l, r) ∈ known ++ more.map pky := pk_mem.mp hin
          have eS : pstep (known ++ more.map pky, more) (one, oth, l, r) = (known ++ more.map pky, more) := by unfold pstep; rw [if_pos hin2]
          rw [eS]
          exact ws_next ⟨_, _, _, _, _, rfl⟩
      · rintro τ ⟨z5, z6, z7, z8, z9, rfl⟩
        rw [List.length_map, List.take_length]
        exact ⟨_, _, _, _, _, _, rfl⟩
    · rintro τ ⟨y4, y5, y6, y7, y8, y9, rfl⟩
      rw [List.length_map, List.take_length]
      obtain ⟨more, e, hg, h2, ha, hm1, hm2⟩ := hpart _ (fun y hy => hy)
      have ef : pfold old new known level = (known ++ more.map pky, more) := e
      rw [e]
      rw [ef] at hp
      refine ws_frz 3 rfl ?_
      refine ws_seq (ws_for (ie_list (ev_var rfl)) (fun j τ => (more.take j).find? phit = none ∧ ∃ (x5 x6 x7 x8 x9 : SD), τ = [.dt (rep old new), .dt (.list (level.map pnD)), dcN w (kvK (known ++ more.map pky)), .dt (.list (more.map pnD)), y4, x5, x6, x7, x8, x9]) ⟨rfl, _, _, _, _, _, rfl⟩ ?_ ?_)
      · rintro j x τ hx ⟨hno, z5, z6, z7, z8, z9, rfl⟩
        obtain ⟨y, hy, rfl⟩ := map_get hx
        have hym := List.mem_of_getElem? hy
        obtain ⟨one, oth, l, r⟩ := y
        obtain ⟨lp, lk⟩ := l
        obtain ⟨rp, rk⟩ := r
        refine ⟨_, tg_tup (tgs_cons tg_name (tgs_cons tg_name (tgs_cons tg_name (tgs_cons tg_name tgs_nil)))) rfl, ?_⟩
        refine ws_if (b := phit (one, oth, (lp, lk), (rp, rk))) (et_is (et_and (a := !decide (one = oth)) (b := decide (lk = 0) && decide (rk = 0)) (et_test (ev_op (ev_var rfl) (ev_var rfl) od_neT)) fun _ => et_and (et_is (et_test (ev_op (ev_op (ev_var rfl) ev_int (od_ix_tup rfl)) ev_int od_eq_int)) ?_) fun _ => et_is (et_test (ev_op (ev_op (ev_var rfl) ev_int (od_ix_tup rfl)) ev_int od_eq_int)) ?_) ?_) (fun hb => ?_) (fun hb => ws_next ?_)
        · rw [Bool.eq_iff_iff, decide_eq_true_iff, decide_eq_true_iff]; show ((lk : Nat) : Int) = 0 ↔ lk = 0; omega
        · rw [Bool.eq_iff_iff, decide_eq_true_iff, decide_eq_true_iff]; show ((rk : Nat) : Int) = 0 ↔ rk = 0; omega
        · unfold phit
          rw [decide_not]
        · have hfd : more.find? phit = some (one, oth, (lp, lk), (rp, rk)) := by
            have e1 : more = more.take j ++ (one, oth, (lp, lk), (rp, rk)) :: more.drop (j + 1) := by
              obtain ⟨h1, h2⟩ := List.getElem?_eq_some_iff.mp hy
              rw [← h2, ← List.drop_eq_getElem_cons h1, List.take_append_drop]
            rw [e1, List.find?_append, hno, List.find?_cons, hb]
            rfl
          have hp : (match more.find? phit with
            | some x => some x
            | none => pairF old new m' (known ++ more.map pky) more) = pairF old new 200 [pky proot] [proot] := hp
          rw [hfd] at hp
          refine ws_ret (ev_tup (ea_cons (ev_cb (ea_cons (ev_var rfl) (ea_cons (ev_var rfl) ea_nil)) cd_min2T) (ea_cons (ev_cb (ea_cons (ev_var rfl) (ea_cons (ev_var rfl) ea_nil)) cd_max2T) ea_nil)) (by show 2 ≤ sizeLine; decide)) ?_
          show _ = SD.dt (opairD (fpair old new))
          rw [hfp, ← hp]
          rfl
        · refine ⟨?_, _, _, _, _, _, rfl⟩
          rw [take_map_step hy, List.find?_append, hno, List.find?_cons, hb]
          rfl
      · rintro τ ⟨hno, z5, z6, z7, z8, z9, rfl⟩
        rw [List.length_map, List.take_length] at hno
        have hp : (match more.find? phit with
            | some x => some x
            | none => pairF old new m' (known ++ more.map pky) more) = pairF old new 200 [pky proot] [proot] := hp
        rw [hno] at hp
        refine ws_set (ev_var rfl) ⟨m', by omega, known ++ more.map pky, more, i + 1, _, _, _, _, _, _, _, rfl, hp, hg, h2, ha, ?_, by omega⟩
        by_cases z : more = []
        · exact .inl z
        · right
          have : 0 < more.length := List.length_pos_iff.mpr z
          rw [List.length_append, List.length_map]
          omega
  · have hle : level = [] := by cases level with
      | nil => rfl
      | cons a b => cases hb
    subst hle
    refine ws_ret ev_none ?_
    show SD.dt .none = SD.dt (opairD (fpair old new))
    rw [hfp, ← hp]
    cases m with
    | zero => rfl
    | succ m => rfl
theorem e_find_pair {old new : List Nat} (ha : EvS K ta τ (rep old new)) (h : Rp old new) : EvX K (tCallS (spD K F_find_pair) E (tCons ta tNil)) τ (.dt (opairD (fpair old new))) := ev_call (ea_cons ha ea_nil) ⟨old, new, rfl, h, rfl⟩
theorem ws_is_one_to_one (h : F_is_one_to_one ds sd) : WS K (t_is_one_to_one K W) (startD 1 ds) (retE W sd) := by
  obtain ⟨old, new, rfl, hr, rfl⟩ := h
  refine ws_seq (ws_drop (e_check_replacement (ev_var rfl) hr) (ws_ret (ev_op (e_find_pair (ev_var rfl) hr) ev_none od_isN) ?_))
  show SD.dt (.bool (isNone (opairD (fpair old new)))) = _
  cases fpair old new <;> rfl
theorem e_is_one_to_one {old new : List Nat} (ha : EvS K ta τ (rep old new)) (h : Rp old new) : EvX K (tCallS (spD K F_is_one_to_one) E (tCons ta tNil)) τ (.dt (.bool (fpair old new).isNone)) := ev_call (ea_cons ha ea_nil) ⟨old, new, rfl, h, rfl⟩
end
end Sw
/-! part SxK -/
set_option Elab.async false
set_option linter.all false
set_option maxRecDepth 100000
set_option maxHeartbeats 4000000
namespace Sw
open PySem PySem.Spec L2
/-! ## sources for any new word -/
abbrev ST := List Nat × Nat
def leSt (a b : ST) : Bool := PySem.W.dataLe false id (stD a) (stD b)
def srtQ (l : List ST) : List ST := l.mergeSort leSt
theorem srtQ_perm (l : List ST) : (srtQ l).Perm l := List.mergeSort_perm l _
theorem sortD_st (l : List ST) : sortD (l.map stD) = (srtQ l).map stD := by
  unfold sortD srtQ
  exact (List.map_mergeSort (f := stD) fun a _ b _ => rfl).symm
theorem leSt_total : PySem.W.TotalLe leSt := by
  have h := PySem.W.sortLe_total (PyProof.Rows.listOrd PyProof.Rows.itemOrd) false fun a : ST => PySem.W.keyToks (stD a)
  exact ⟨fun a b c => h.trans a b c, fun a b => h.total a b⟩
theorem leSt_anti {a b : ST} (h1 : leSt a b = true) (h2 : leSt b a = true) : a = b := by
  have h1 : (!(PyProof.Rows.listOrd PyProof.Rows.itemOrd).blt (PySem.W.keyToks (stD b)) (PySem.W.keyToks (stD a))) = true := h1
  have h2 : (!(PyProof.Rows.listOrd PyProof.Rows.itemOrd).blt (PySem.W.keyToks (stD a)) (PySem.W.keyToks (stD b))) = true := h2
  have e := (PyProof.Rows.listOrd PyProof.Rows.itemOrd).total _ _ (by simpa using h1) (by simpa using h2)
  have ek : ∀ s : ST, PySem.W.keyToks (stD s) = [.inl 1, .inr s.1, .inl 1, .inl ((s.2 : Nat) : Int), .inl 0] := fun s => by
    show PySem.W.keyToks (.tuple [T s.1, .int ((s.2 : Nat) : Int)]) = _
    simp only [PySem.W.keyToks, PySem.W.keyToksAll]
    rw [tx_list]; rfl
  rw [ek, ek] at e
  injection e with _ e
  injection e with e1 e
  injection e with _ e
  injection e with e2 _
  injection e1 with e1
  injection e2 with e2
  exact Prod.ext e1.symm (by omega)
theorem srtQ_sorted (l : List ST) : (srtQ l).Pairwise fun a b => leSt a b = true := List.pairwise_mergeSort (fun a b c => leSt_total.trans a b c) (fun a b => by
  rcases leSt_total.total a b with h | h <;> rw [h] <;> simp) l
theorem sorted_eq {l m : List ST} (h1 : l.Pairwise fun a b => leSt a b = true) (h2 : m.Pairwise fun a b => leSt a b = true) (hp : l.Perm m) : l = m :=
  List.Perm.eq_of_pairwise (le := fun a b => leSt a b = true) (fun a b _ _ h1 h2 => leSt_anti h1 h2) h1 h2 hp
section
variable {old new : List Nat}
/-- a text that is a result -/
def Rch (old new r : List Nat) : Prop := ∃ s, result old new s = r
def endsOf (N : List ST) : List (List Nat) := (N.filter fun st => decide (st.2 = 0)).map (·.1)
def sprd (old new : List Nat) (E : List (List Nat)) : List (List Nat) := if new = [] ∧ [] ∉ E ∧ (E.any fun e => mput old new e old) = true then E ++ [[]] else E
def nxG (old new : List Nat) (c : Nat) (S : List ST) : List ST := ((sprd old new (endsOf (nxt old new c S))).map fun e => (e, 0)).foldl addN (nxt old new c S)
theorem ends_mem {N : List ST} {e : List Nat} : e ∈ endsOf N ↔ (e, 0) ∈ N := by
  unfold endsOf
  rw [List.mem_map]
  constructor
  · rintro ⟨st, h, rfl⟩
    obtain ⟨h1, h2⟩ := List.mem_filter.mp h
    have h2 := of_decide_eq_true h2
    rw [← h2]; exact h1
  · intro h; exact ⟨(e, 0), List.mem_filter.mpr ⟨h, rfl⟩, rfl⟩
theorem sprd_mem {E : List (List Nat)} {e : List Nat} : e ∈ sprd old new E → e ∈ E ∨ (new = [] ∧ e = [] ∧ ∃ x ∈ E, mput old new x old = true) := by
  unfold sprd
  split
  · rename_i h
    intro z
    rcases List.mem_append.mp z with z | z
    · exact .inl z
    · obtain ⟨x, hx, hm⟩ := List.any_eq_true.mp h.2.2
      exact .inr ⟨h.1, List.mem_singleton.mp z, x, hx, hm⟩
  · exact .inl
theorem sprd_sub {E : List (List Nat)} {e : List Nat} (h : e ∈ E) : e ∈ sprd old new E := by
  unfold sprd
  split
  · exact List.mem_append_left _ h
  · exact h
theorem sprd_new {E : List (List Nat)} (hn : new = []) {x : List Nat} (hx : x ∈ E) (hm : mput old new x old = true) : [] ∈ sprd old new E := by
  unfold sprd
  by_cases h : [] ∈ E
  · split
    · exact List.mem_append_left _ h
    · exact h
  · rw [if_pos ⟨hn, h, List.any_eq_true.mpr ⟨x, hx, hm⟩⟩]
    exact List.mem_append_right _ List.mem_cons_self
theorem nxG_nd (c : Nat) (S : List ST) : (nxG old new c S).Nodup := (adds_all _ _ (nxt_nd c S)).1
theorem nxG_mem {c : Nat} {S : List ST} {y : ST} : y ∈ nxG old new c S ↔ y ∈ nxt old new c S ∨ (new = [] ∧ y = ([], 0) ∧ ∃ st ∈ nxt old new c S, st.2 = 0 ∧ mput old new st.1 old = true) := by
  unfold nxG
  rw [(adds_all _ _ (nxt_nd c S)).2]
  constructor
  · rintro (z | z)
    · exact .inl z
    · obtain ⟨e, he, rfl⟩ := List.mem_map.mp z
      rcases sprd_mem he with h | ⟨h1, h2, x, hx, hm⟩
      · exact .inl (ends_mem.mp h)
      · exact .inr ⟨h1, by rw [h2], (x, 0), ends_mem.mp hx, rfl, hm⟩
  · rintro (z | ⟨h1, h2, st, h3, h4, h5⟩)
    · exact .inl z
    · right
      rw [h2]
      refine List.mem_map.mpr ⟨[], sprd_new h1 (x := st.1) (ends_mem.mpr ?_) h5, rfl⟩
      rw [← h4]; exact h3
theorem src_empty (hn : new = []) {r s : List Nat} {st : ST} : Src old new r s st ↔ result old new s = r ∧ st = (pnd old new s, 0) := by
  constructor
  · rintro (⟨a, b, c⟩ | ⟨_, b, _⟩)
    · exact ⟨b, Prod.ext c a⟩
    · rw [hn] at b; cases b
  · rintro ⟨a, rfl⟩; exact .inl ⟨rfl, a, rfl⟩
theorem empty_back (h : 1 ≤ old.length) (hn : new = []) {r : List Nat} {c : Nat} {N : List ST} (hN : ∀ u, result old new u = r → pnd old new u ++ [c] ≠ old → ((rds old new (pnd old new u) c).1, 0) ∈ N) :
    ∀ (n : Nat) (s : List Nat), s.length = n → result old new s = r ++ [c] → (pnd old new s, 0) ∈ N ∨ (pnd old new s = [] ∧ ∃ st ∈ N, st.2 = 0 ∧ mput old new st.1 old = true) := by
  intro n
  induction n using Nat.strongRecOn with
  | _ n ih =>
    intro s hs e
    rcases last_or s with rfl | ⟨u, d, rfl⟩
    · have e2 : result old new [] = [] := rsl_short (by rw [List.length_nil]; omega)
      rw [e2] at e
      exact absurd e.symm (by simp)
    · by_cases hc : pnd old new u ++ [d] = old
      · obtain ⟨v, hv, hm⟩ := cpl_form h (t := u ++ [d]) ⟨u, d, rfl, hc⟩
        obtain ⟨m1, m2⟩ := mput_res h hm
        rw [hv] at e hs ⊢
        rw [m2, hn, List.append_nil] at e
        rw [List.length_append] at hs
        rw [hn] at m1 hm ih hN ⊢
        refine .inr ⟨m1, ?_⟩
        rcases ih v.length (by omega) v rfl e with z | ⟨_, z⟩
        · exact ⟨_, z, rfl, hm⟩
        · exact z
      · rw [res_lit h hc] at e
        obtain ⟨e1, e2⟩ := List.append_inj' e rfl
        injection e2 with e2
        subst e2
        left
        rw [pnd_app]
        exact hN u e1 hc
/-- what is known about the states after r, for any new word -/
theorem sts_nilG (h : 1 ≤ old.length) : StsOk old new [] [([], 0)] := by
  by_cases hn : new = []
  · refine ⟨by simp, fun st => ?_⟩
    rw [List.mem_singleton]
    constructor
    · rintro rfl
      exact ⟨[], (src_empty hn).mpr ⟨rsl_short (by rw [List.length_nil]; omega), rfl⟩⟩
    · rintro ⟨s, hs⟩
      obtain ⟨e, rfl⟩ := (src_empty hn).mp hs
      have := res_eq (new := new) h s
      rw [e] at this
      rw [(List.append_eq_nil_iff.mp this.symm).2]
  · exact sts_nil h hn
theorem sts_nextG (h : 1 ≤ old.length) {r : List Nat} {c : Nat} {S S' : List ST} (H : StsOk old new r S) (hp : S'.Perm (nxG old new c S)) : StsOk old new (r ++ [c]) S' := by
  refine ⟨hp.nodup_iff.mpr (nxG_nd c S), fun st => ?_⟩
  rw [hp.mem_iff, nxG_mem]
  constructor
  · rintro (z | ⟨h1, h2, st0, h3, h4, h5⟩)
    · obtain ⟨st0, h1, p, hpw⟩ := nxt_mem.mp z
      obtain ⟨s, hs⟩ := (H.2 st0).mp h1
      exact ⟨s ++ p, src_go h hs hpw⟩
    · obtain ⟨st1, k1, p, hpw⟩ := nxt_mem.mp h3
      obtain ⟨s, hs⟩ := (H.2 st1).mp k1
      have hs := src_go h hs hpw
      obtain ⟨e1, e2⟩ := (src_empty h1).mp hs
      rw [e2] at h5
      obtain ⟨m1, m2⟩ := mput_res h h5
      refine ⟨s ++ p ++ old, (src_empty h1).mpr ⟨?_, ?_⟩⟩
      · rw [m2, e1, h1, List.append_nil]
      · rw [h2, m1]
  · rintro ⟨s, hs⟩
    by_cases hn : new = []
    · obtain ⟨e1, e2⟩ := (src_empty hn).mp hs
      rw [e2]
      rcases empty_back h hn (N := nxt old new c S) (fun u hu hc => nxt_mem.mpr ⟨(pnd old new u, 0), (H.2 _).mpr ⟨u, (src_empty hn).mpr ⟨hu, rfl⟩⟩, [c], ways_mem.mpr (.inr (.inl ⟨rfl, hc, rfl, rfl⟩))⟩) _ s rfl e1 with z | ⟨z1, z2⟩
      · exact .inl z
      · exact .inr ⟨hn, by rw [z1], z2⟩
    · obtain ⟨s0, st0, p, h1, h2, _⟩ := src_back h hn hs
      exact .inl (nxt_mem.mpr ⟨st0, (H.2 st0).mpr ⟨s0, h1⟩, p, h2⟩)
theorem sts_anyG {r : List Nat} {S : List ST} (H : StsOk old new r S) : (S.any fun st => decide (st.2 = 0)) = true ↔ Rch old new r := by
  constructor
  · intro z
    obtain ⟨st, h1, h2⟩ := List.any_eq_true.mp z
    have h2 := of_decide_eq_true h2
    obtain ⟨s, hs⟩ := (H.2 st).mp h1
    rcases hs with ⟨_, e, _⟩ | ⟨z, _⟩
    · exact ⟨s, e⟩
    · omega
  · rintro ⟨s, rfl⟩
    exact List.any_eq_true.mpr ⟨(pnd old new s, 0), (H.2 _).mpr ⟨s, src_of s⟩, rfl⟩
/-! the states after a text, as the search knows them -/
def stU (old new r : List Nat) : List ST := r.foldl (fun S c => srtQ (nxG old new c S)) [([], 0)]
theorem stU_app (r : List Nat) (c : Nat) : stU old new (r ++ [c]) = srtQ (nxG old new c (stU old new r)) := by unfold stU; rw [List.foldl_append]; rfl
theorem stU_nd {u v : List Nat} {c : Nat} (h : stU old new u = stU old new v) : stU old new (u ++ [c]) = stU old new (v ++ [c]) := by rw [stU_app, stU_app, h]
theorem stU_ok (h : 1 ≤ old.length) (r : List Nat) : StsOk old new r (stU old new r) := by
  refine rev_ind (P := fun r => StsOk old new r (stU old new r)) (sts_nilG h) ?_ r
  intro r c ih
  rw [stU_app]
  exact sts_nextG h ih (srtQ_perm _)
theorem stU_sorted (r : List Nat) : (stU old new r).Pairwise fun a b => leSt a b = true := by
  rcases last_or r with rfl | ⟨u, c, rfl⟩
  · show ([([], 0)] : List ST).Pairwise _
    simp
  · rw [stU_app]; exact srtQ_sorted _
def gdU (S : List ST) : Prop := ¬ (S.any fun st => decide (st.2 = 0)) = true
theorem gdU_iff (h : 1 ≤ old.length) (r : List Nat) : gdU (stU old new r) ↔ ¬ Rch old new r := not_congr (sts_anyG (stU_ok h r))
/-! how many -/
def bls : Nat → List (List Bool)
  | 0 => [[]]
  | n + 1 => (bls n).map (true :: ·) ++ (bls n).map (false :: ·)
theorem bls_len : ∀ n, (bls n).length = 2 ^ n
  | 0 => rfl
  | n + 1 => by rw [bls, List.length_append, List.length_map, List.length_map, bls_len n, Nat.pow_succ]; omega
theorem bls_mem : ∀ l : List Bool, l ∈ bls l.length
  | [] => List.mem_cons_self
  | true :: l => List.mem_append_left _ (List.mem_map_of_mem (bls_mem l))
  | false :: l => List.mem_append_right _ (List.mem_map_of_mem (bls_mem l))
def mask (old new : List Nat) (S : List ST) : List Bool := (allSt old new).map fun st => decide (st ∈ S)
theorem mask_inj {S S' : List ST} (h1 : ∀ st ∈ S, OkSt old new st) (h2 : ∀ st ∈ S', OkSt old new st) (e : mask old new S = mask old new S') : ∀ st, st ∈ S ↔ st ∈ S' := by
  have key : ∀ st ∈ allSt old new, decide (st ∈ S) = decide (st ∈ S') := List.map_inj_left.mp e
  intro st
  constructor
  · intro h
    have := key st (okSt_all (h1 st h))
    rw [decide_eq_true h] at this
    exact of_decide_eq_true this.symm
  · intro h
    have := key st (okSt_all (h2 st h))
    rw [decide_eq_true h] at this
    exact of_decide_eq_true this
theorem U_len (hr : Rp old new) {N : List (List Nat)} (hn : (N.map (stU old new)).Nodup) : N.length ≤ 256 := by
  have h1 := hr.o1
  have hal : (allSt old new).length ≤ 8 := by
    have h2 : (allSt old new).length = old.length + new.length := by
      unfold allSt
      rw [List.length_append, List.length_map, List.length_map, List.length_range, List.length_range]
    have := hr.o4
    have := hr.n4
    omega
  have hm : (N.map fun t => mask old new (stU old new t)).Nodup := by
    rw [List.Nodup, List.pairwise_map] at hn ⊢
    refine hn.imp_of_mem fun {a b} _ _ hab e => hab ?_
    have hA := stU_ok (new := new) h1 a
    have hB := stU_ok (new := new) h1 b
    exact sorted_eq (stU_sorted a) (stU_sorted b) ((List.perm_ext_iff_of_nodup hA.1 hB.1).mpr (mask_inj (sts_ok h1 hA) (sts_ok h1 hB) e))
  have h := nd_le _ (bls (allSt old new).length) hm fun x hx => by
    obtain ⟨t, _, rfl⟩ := List.mem_map.mp hx
    have := bls_mem (mask old new (stU old new t))
    unfold mask at this ⊢
    rwa [List.length_map] at this
  rw [List.length_map, bls_len] at h
  exact Nat.le_trans h (Nat.le_trans (Nat.pow_le_pow_right (by decide) hal) (by decide))
end
end Sw
/-! part SxL -/
set_option Elab.async false
set_option linter.all false
set_option maxRecDepth 100000
set_option maxHeartbeats 4000000
namespace Sw
open PySem PySem.Spec L2 PyProof.Rows
/-! ## list(list) -/
def rListOf (K : PySem.W.Frag) : List V → Hp → VK → Prop := fun xs H Q => ∃ p ys, xs = [.ref p] ∧ (SqL K H p ys ∨ SqT K H p ys) ∧ ∀ l, H l = none → Q (.ref l) (upd H l (.lst ys))
theorem cr_listOf {X : Cx} : CallR X (.type "list") (rListOf X.K) := call_list_of
section
variable {K : PySem.W.Frag}
theorem cd_listOf {ds : List PyData} : CbD K (rListOf K) [.list ds] (.ls ds) := fun B H vs e hv Q q => by
  cases hv with
  | cons h1 h2 =>
    cases h2
    cases h1 with
    | @lst a xs _ g1 a1 =>
      exact ⟨a, xs, rfl, .inl (SqL.of (e _ _ g1)), fun p hp => q _ _ _ (Step.own e hp) ⟨p, _, rfl, hp, upd_same, Same.free e hp, _, rfl, a1⟩⟩
end
end Sw
/-! part SxF -/
set_option Elab.async false
set_option linter.all false
set_option maxRecDepth 100000
set_option maxHeartbeats 4000000
namespace Sw
open PySem PySem.Spec L2 PyProof.Rows
/-! ## dicts that are read: d[k], d.get(k, x), for k in d, sorted(d) -/
abbrev PdR : List (PyData × Addr × V) → List (PyData × Addr × Value) → Prop := Paired (fun x y => x.1 = y.1 ∧ x.2.1 = y.2.1 ∧ RelV x.2.2 y.2.2)
theorem dic_w {w w' : World} {a : Addr} {ep : Nat} {xs : List (PyData × Addr × V)} {h : Heap} (e : ∀ x ∈ xs, hashD w' x.1 = hashD w x.1) (D : DicAt w' a ep xs h) : DicAt w a ep xs h := by
  obtain ⟨h1, h2, h3, ys, r, o, es, ho, hx, hd, he⟩ := D
  refine ⟨h1, h2, h3, ys, r, o, es, ho, hx, hd, ?_⟩
  rw [he]
  refine List.map_congr_left fun y hy => ?_
  obtain ⟨x, hx, e1, _⟩ := pd_mem r y hy
  rw [← e1, e x hx]
/-- the dict at a, its hashes those of the world w -/
def DcV (w : World) (H : Hp) (a : Addr) (ep : Nat) (xs : List (PyData × Addr × V)) : Prop := ∃ w', H a = some (DicO w' a ep xs) ∧ ∀ x ∈ xs, hashD w' x.1 = hashD w x.1
theorem dcv_at {X : Cx} {pins : List (Addr × Obj)} {σ : L2.St} {H : Hp} {s : Shared} {a : Addr} {ep : Nat} {xs : List (PyData × Addr × V)} (I : Inv X pins σ H s) (e : DcV X.w H a ep xs) : DicAt X.w a ep xs s.heap := by
  obtain ⟨w', h, e⟩ := e
  exact dic_w e (I.hok a _ h).1
theorem dcv_I {X : Cx} {pins : List (Addr × Obj)} {σ : L2.St} {H : Hp} {s : Shared} {a : Addr} {ep : Nat} {xs : List (PyData × Addr × V)} (I : Inv X pins σ H s) (e : DcV X.w H a ep xs) (hk : ∀ x ∈ xs, KeyIn X.K H x.1 x.2.1) :
    (a == sysModules) = false ∧ xs.length ≤ sizeLine ∧ ∃ ys : List (PyData × Addr × Value), PdR xs ys ∧ s.heap.DictOfH (nkind X.prog X.w) a ys :=
  dic_of (dcv_at I e) fun x hx => (hk x hx).is I
noncomputable def lookV (xs : List (PyData × Addr × V)) (d : PyData) : Option V := (xs.find? fun x => decide (x.1 = d)).map (·.2.2)
theorem look_rel {xs : List (PyData × Addr × V)} {ys : List (PyData × Addr × Value)} {d : PyData} (r : PdR xs ys) : (lookV xs d = none ∧ atKey ys d = none) ∨ ∃ v p, lookV xs d = some v ∧ atKey ys d = some p ∧ RelV v p.2 := by
  induction r with
  | nil => exact .inl ⟨rfl, rfl⟩
  | @cons x y xs ys h t ih =>
    unfold lookV atKey at ih ⊢
    rw [List.find?_cons, List.find?_cons]
    by_cases e : x.1 = d
    · rw [decide_eq_true e, decide_eq_true (h.1.symm.trans e)]
      exact .inr ⟨_, _, rfl, rfl, h.2.2⟩
    · rw [decide_eq_false e, decide_eq_false (fun z => e (h.1.trans z))]
      exact ih
def rIxN (K : PySem.W.Frag) (w : World) : R2 := fun x y H Q => ∃ a b ep xs d v, x = .ref a ∧ y = .ref b ∧ DcV w H a ep xs ∧ KeyIn K H d b ∧ (∀ x ∈ xs, KeyIn K H x.1 x.2.1) ∧ lookV xs d = some v ∧ Q v H
def tDGetN (K : PySem.W.Frag) (w : World) (td ty tx : TE) : TE := fun σ H Q => td σ H fun x H1 => ∃ a, x = .ref a ∧ (∃ ep xs, DcV w H1 a ep xs) ∧ ty σ H1 fun y H2 => tx σ H2 fun z H3 => ∃ b ep xs d, y = .ref b ∧ DcV w H3 a ep xs ∧ KeyIn K H3 d b ∧ (∀ x ∈ xs, KeyIn K H3 x.1 x.2.1) ∧ Q ((lookV xs d).getD z) H3
def Itdn (w : World) (a : Addr) (ep : Nat) (xs : List (PyData × Addr × V)) : It := ⟨fun i H => H a = some (DicO w a ep xs) ∧ i < xs.length, fun i H x H' => H' = H ∧ ∃ k b v, xs[i]? = some (k, b, v) ∧ x = .ref b, fun i H => H a = some (DicO w a ep xs) ∧ xs.length ≤ i⟩
def iDicN (td : TE) : TI := fun σ H R => td σ H fun x H1 => ∃ a w ep xs, x = .ref a ∧ H1 a = some (DicO w a ep xs) ∧ R (Itdn w a ep xs) H1
def tDNewN (w : World) : TE := fun _ H Q => ∀ p, H p = none → Q (.ref p) (upd H p (DicO w p 0 []))
section
variable {X : Cx}
theorem ix_dicN {k : Nat} (hr : Room k X.A) : IxR X (rIxN X.K X.w) := by
  intro value slice pins s σ H x y v u Q I rx ry h hs
  obtain ⟨a, b, ep, xs, d, v0, rfl, rfl, e, kd, hk, hl, q⟩ := h
  obtain rfl : v = Value.ref a := rx
  obtain rfl : u = Value.ref b := ry
  obtain ⟨h1, h2, ys, r, dd⟩ := dcv_I I e hk
  rcases look_rel (d := d) r with ⟨z, _⟩ | ⟨v1, p, z, hp, rv⟩
  · rw [hl] at z; cases z
  · rw [hl] at z
    cases z
    exact tail_any dd.typeIs slot_dict_getitem.lookup (wpAny_getItem_heap (knd := nkind X.prog X.w) (k := d) (show X.A.units + 1 + 40 < cLine by have := hr.un; omega) (kd.is I) dd hp ⟨v0, H, I.tok _, rv, q⟩) hs
theorem pe_dnewN {pos : Pos} : PE X (.Dict [] [] pos) (tDNewN X.w) := ⟨fun pins s σ H Q I h =>
  wpAny_Dict_empty ⟨.ref s.heap.objs.size, _, I.laid (a := s.heap.objs.size) (o := DicO X.w s.heap.objs.size 0 []) (t' := s.toks) (fun _ _ q => Heap.get?_push_of_some _ q) (Nat.le_refl _) (dic_empty s.heap I.big), rfl, h _ (I.hok.fresh (Nat.le_refl _))⟩⟩
theorem pe_dgetN {k : Nat} (hr : Room k X.A) {o e f : Expr} {apos cpos : Pos} {td ty tx : TE} (ho : PE X o td) (he : PE X e ty) (hf : PE X f tx) (m : M2 X o "get" apos e f cpos) : PE X (.Call (.Attribute o "get" apos) [e, f] [] cpos) (tDGetN X.K X.w td ty tx) := by
  refine ⟨fun pins s σ H Q I h => ?_⟩
  refine wpAny_Call_method m.base m.few m.line PySem.F.plainAttrs_dict PySem.F.slot_dict_get PySem.F.type_dict_get (thn (ho.run pins s σ H _ I h) fun u s1 ⟨x, H1, I1, rx, a, ex, ⟨ep1, xs1, d1⟩, q1⟩ => ?_)
  subst ex
  obtain rfl : u = Value.ref a := rx
  obtain ⟨_, _, _, _, _, o1, es1, ho1, hx1, hd1, _⟩ := dcv_at I1 d1
  refine ⟨⟨o1, ho1, hx1.1⟩, fun b hb => by cases hb; exact ⟨o1, ho1, hx1.2.1⟩, ?_⟩
  rw [m.trees]
  refine Calls.callWith_builtin rfl (Calls.evalArgs_plain (Calls.spliced_cons (thn (he.run pins s1 σ H1 _ I1 q1) fun iv s2 ⟨y, H2, I2, ry, q2⟩ =>
    Calls.spliced_cons (thn (hf.run pins s2 σ H2 _ I2 q2) fun fv s3 ⟨z, H3, I3, rz, b, ep, xs, d, ey, e3, kd, hk, q3⟩ => Calls.spliced_nil ?_))))
  subst ey
  obtain rfl : iv = Value.ref b := ry
  obtain ⟨h1, h2, ys, r, dd⟩ := dcv_I I3 e3 hk
  refine call_meetsIn F.slot_dict_get dd.typeIs F.entry_dict_get (F.args_dict_get_3 _ _ _) (meetsH_dict_get_default (nkind X.prog X.w) a b h1 fv) ⟨show X.A.units + 1 + 40 < cLine by have := hr.un; omega, d, ys, kd.is I3, dd, ?_⟩
  rcases look_rel (d := d) r with ⟨z1, z2⟩ | ⟨v1, p, z1, z2, rv⟩
  · rw [z1] at q3
    rw [z2]
    exact ⟨z, H3, I3.tok _, rz, q3⟩
  · rw [z1] at q3
    rw [z2]
    exact ⟨v1, H3, I3.tok _, rv, q3⟩
theorem pd_get : ∀ {xs : List (PyData × Addr × V)} {ys : List (PyData × Addr × Value)} {i : Nat} {x : PyData × Addr × V}, PdR xs ys → xs[i]? = some x → ∃ y, ys[i]? = some y ∧ x.1 = y.1 ∧ x.2.1 = y.2.1 ∧ RelV x.2.2 y.2.2
  | _, _, i, x, .nil, h => by simp at h
  | _, _, 0, x, .cons h1 t, h => by
    have z := Option.some.inj h
    subst z
    exact ⟨_, rfl, h1⟩
  | _, _, i + 1, x, .cons h1 t, h => by
    obtain ⟨y, h2, h3⟩ := pd_get (i := i) t (by simpa using h)
    exact ⟨y, by simpa using h2, h3⟩
theorem turn_dicN {P : Program} {w : World} {K : PySem.W.Frag} {tg : Expr} {w' : World} {d : Addr} {ep : Nat} {xs : List (PyData × Addr × V)} (it : Addr) : Turn P w K tg (Itdn w' d ep xs) [it] it (fun i h => h.IsKeyIter it d i xs.length ep) where
  mem := by simp
  obj := fun i h st b hb => by
    have e : b = it := by simpa using hb
    subst e
    obtain ⟨oi, e, c, dd⟩ := st
    exact ⟨oi, e, fun v z => by rw [dd] at z; cases z⟩
  keep := fun i h h' st k => st.at fun oi e => k it (by simp) oi e
  item := by
    intro X hP hw hK hc i pins s σ H E I hf st hg
    subst hP hw hK
    obtain ⟨hd, hi⟩ := hg
    obtain ⟨f0, f1, f2, f3, f4, f5⟩ := hf it (by simp)
    obtain ⟨_, _, _, ys, r, o, es, ho, hx, hdt, he⟩ := (I.hok d _ hd).1
    have hsz : es.size = xs.length := by rw [← Array.length_toList, he, List.length_map, Paired.length r]
    obtain ⟨⟨k, b, v⟩, hkv⟩ : ∃ p, xs[i]? = some p := ⟨xs[i], List.getElem?_eq_getElem hi⟩
    obtain ⟨y, hy, e1, e2, e3⟩ := pd_get r hkv
    have hen : es[i]? = some ⟨hashD w' y.1, .ref y.2.1, y.2.2⟩ := by
      rw [← Array.getElem?_toList, he, List.getElem?_map, hy]; rfl
    refine next_key_item st ho hdt hsz hen fun h' st' sb => ?_
    have I1 : Inv X pins σ H { s with heap := h' } := I.turned (t' := s.toks) (fun b ob hb e => (sb.2 b hb).trans e) f0 f1 f3 f4 f5
    obtain ⟨oi, e, c, dd⟩ := id st'
    exact ⟨_, rfl, go_of (s := { s with heap := h' }) e c dd (by decide) ⟨.ref b, H, I1, (show Value.ref y.2.1 = Value.ref b by rw [← e2]), ⟨rfl, k, b, v, hkv, rfl⟩, st', fun b hb => (hf b hb).1⟩⟩
  done := by
    intro X hP hw hK hc i pins s σ H E I hf st hg
    subst hP hw hK
    obtain ⟨hd, hi⟩ := hg
    obtain ⟨f0, f1, f2, f3, f4, f5⟩ := hf it (by simp)
    obtain ⟨_, _, _, ys, r, o, es, ho, hx, hdt, he⟩ := (I.hok d _ hd).1
    have hsz : es.size = xs.length := by rw [← Array.length_toList, he, List.length_map, Paired.length r]
    exact next_key_end (I.ok.hd hc) st ho hdt hsz hi fun h' eb => ⟨rfl, I.turned (t' := s.toks) (fun b ob hb e => eb b ob hb e) f0 f1 f3 f4 f5⟩
  self := fun A i s Q E st h => wpAny_pyIter_keyiter st h
theorem pi_dicN {tg e : Expr} {td : TE} (he : PE X e td) : PI X tg e (iDicN td) := by
  refine ⟨fun pins s σ H R I h => ?_⟩
  refine thn (he.run pins s σ H _ I h) fun u s1 ⟨x, H1, I1, rx, d, w', ep, xs, ex, hd, q⟩ => ?_
  subst ex
  obtain rfl : u = Value.ref d := rx
  obtain ⟨h1, _, _, ys, r, o, es, ho, hx, hdt, hes⟩ := (I1.hok d _ hd).1
  have hsz : es.size = xs.length := by rw [← Array.length_toList, hes, List.length_map, Paired.length r]
  refine iter_keys h1 ho hx hdt (pi_one (tk := s1.toks) I1 _ (turn_dicN _) ⟨_, Heap.get?_push_size _ rfl, rfl, ?_⟩ q)
  rw [hsz]
  rfl
end
/-! sorted(d) -/
theorem kdl_raw {prog : Program} {w : World} {d : Addr} {es : Array DictEntry} {ep : Nat} (lo : (d == sysModules) = false) : PySem.W.KdlSrc prog w "dict" d d es.size (fun i v => ∃ hi : i < es.size, v = es[i].key) (fun h => h.DictRaw d es ep) where
  type := fun _ hm => hm.typeIs
  there := fun _ hm => by
    obtain ⟨o, ho, _⟩ := hm
    exact ⟨Heap.lt_size ho, Heap.lt_size ho⟩
  keep := fun _ _ hm hk => hm.at fun o e => hk d (.inl rfl) o e
  notList := by decide
  notTuple := by decide
  hint := fun _ _ _ _ hm hq => PySem.W.kdl_hint_dict hm.typeIs hq
  iter := fun _ _ hh hm => by
    have hm2 := hm
    obtain ⟨o, ho, hc⟩ := hm2
    exact ⟨_, _, (fun _ _ hq => wpAny_pyIter_dict_raw lo hm hq), Walks.rawKeys hh _ d (Nat.ne_of_lt (Heap.lt_size ho)) es ep, ⟨⟨_, Heap.get?_push_size _ rfl, rfl, rfl⟩, hm.at fun o e => Heap.get?_push_of_some _ e⟩⟩
mutual
theorem reads_nil {h : Heap} : ∀ (d : PyData) (v : Value) (as : List Addr), keyD d = true → Reads h v d as → as = []
  | .none, _, _, _, r => by cases r; rfl
  | .bool _, _, _, _, r => by cases r; rfl
  | .int _, _, _, _, r => by cases r; rfl
  | .str _, _, _, _, r => by cases r; rfl
  | .tuple xs, _, _, k, r => by
    cases r with
    | tuple _ _ _ h4 => exact readsAll_nil xs _ _ k h4
  | .list _, _, _, k, _ => by cases k
  | .dict _, _, _, k, _ => by cases k
theorem readsAll_nil {h : Heap} : ∀ (ds : List PyData) (vs : List Value) (as : List Addr), keyAll ds = true → ReadsAll h vs ds as → as = []
  | [], _, _, _, r => by cases r; rfl
  | d :: ds, _, _, k, r => by
    simp only [keyAll, Bool.and_eq_true] at k
    cases r with
    | cons h1 h2 => rw [reads_nil d _ _ k.1 h1, readsAll_nil ds _ _ k.2 h2]; rfl
end
def rSortDk (K : PySem.W.Frag) : List V → Hp → VK → Prop := fun vs H Q => ∃ (a : Addr) (w : World) (ep : Nat) (xs : List (PyData × Addr × V)), vs = [V.ref a] ∧ H a = some (DicO w a ep xs) ∧ (∀ x ∈ xs, KeyIn K H x.1 x.2.1) ∧ PySem.W.AllAlike (xs.map (·.1)) ∧ PySem.W.Sortable (xs.map (·.1)) ∧
  ∀ p, H p = none → Q (.ref p) (upd H p (.lst ((xs.mergeSort (PySem.W.dataLe false (·.1))).map fun x => V.ref x.2.1)))
theorem vals_eachK : ∀ {vs : List Value} {xs : List (PyData × Addr × V)}, PySem.W.EachIs (fun (v : Value) (x : PyData × Addr × V) => v = .ref x.2.1) vs xs → Vals (xs.map fun x => V.ref x.2.1) vs
  | _, _, .nil => .nil
  | _, _, .cons h1 t => .cons h1 (vals_eachK t)
theorem each_at {α β : Type} {R : α → β → Prop} : ∀ {l : List α} {m : List β}, l.length = m.length → (∀ (i : Nat) (a : α) (b : β), l[i]? = some a → m[i]? = some b → R a b) → PySem.W.EachIs R l m
  | [], [], _, _ => .nil
  | a :: l, b :: m, h, r => .cons (r 0 a b rfl rfl) (each_at (by simpa using h) fun i x y h1 h2 => r (i + 1) x y (by simpa using h1) (by simpa using h2))
  | [], _ :: _, h, _ => by simp at h
  | _ :: _, [], h, _ => by simp at h
theorem each_mono2 {α β : Type} {R R' : α → β → Prop} : ∀ {l : List α} {m : List β}, PySem.W.EachIs R l m → (∀ a b, b ∈ m → R a b → R' a b) → PySem.W.EachIs R' l m
  | _, _, .nil, _ => .nil
  | _, _, .cons h1 t, h => .cons (h _ _ List.mem_cons_self h1) (each_mono2 t fun a b hb => h a b (List.mem_cons_of_mem _ hb))
theorem cr_sortDk {X : Cx} {k : Nat} (hc : X.calm = true) (hr : Room k X.A) : CallR X (.builtin "sorted") (rSortDk X.K) := by
  intro pins s σ H vs us Q I r h
  obtain ⟨a, w', ep, xs, rfl, ha, hk, hal, hso, q⟩ := h
  obtain ⟨h1, h2, h3, ys, rel, o, es, ho, hx, hdt, hes⟩ := (I.hok a _ ha).1
  have hsz : es.size = xs.length := by rw [← Array.length_toList, hes, List.length_map, Paired.length rel]
  rw [Vals.ref1 r]
  have hu := hr.un
  refine Calls.call_function_entry kind_sorted plain_sorted entry_sorted (args_sorted1 _) ?_
  unfold Builtin.«sorted»
  refine wpAny_bind (m := checkCount "sorted" 1 1 _) (wpAny_pure ?_)
  refine wpAny_bind (PySem.W.kdu_collect (A := X.A.in1) (kdl_raw (es := es) (ep := ep) h1) (I.ok.hd hc) ⟨o, ho, hx, hdt⟩ (by rw [hsz]; exact h2) fun h' tk acc hkp hacc => ?_)
  have hl : acc.toList.length = xs.length := by rw [Array.length_toList, ← hsz]; exact hacc.1
  refine wpAny_bind (wpAny_newList ?_ (by rw [hl]; exact h2))
  have hoL : (h'.push (seqObj "list" acc.toList.toArray 0)).get? h'.objs.size = some (seqObj "list" acc.toList.toArray 0) := Heap.get?_push_size _ rfl
  have hE : PySem.W.EachIs (fun (v : Value) (x : PyData × Addr × V) => v = .ref x.2.1) acc.toList xs := each_at hl fun i v x hv hxi => by
    rw [Array.getElem?_toList] at hv
    obtain ⟨hi, e⟩ := hacc.2 i v hv
    obtain ⟨y, hy, e1, e2, e3⟩ := pd_get rel hxi
    have hen : es[i]? = some ⟨hashD w' y.1, .ref y.2.1, y.2.2⟩ := by
      rw [← Array.getElem?_toList, hes, List.getElem?_map, hy]; rfl
    rw [Array.getElem?_eq_getElem hi] at hen
    rw [e, Option.some.inj hen, e2]
  have hrd : ∀ x ∈ xs, ∃ as, Reads s.heap (.ref x.2.1) x.1 as := fun x hx => ((hk x hx).is I).2
  refine wpAny_bind (wpAny_holding ?_)
  refine PySem.W.list_sort_data (s := { s with heap := h'.push (seqObj "list" acc.toList.toArray 0), toks := tk }) (enc := fun x : PyData × Addr × V => x.1) hoL hE (each_mono2 hE fun v x hx e => ?_) hal hso h2 (fun x hx => ?_) fun out hlen eo => ?_
  · obtain ⟨as, rr⟩ := hrd x hx
    have hn := reads_nil _ _ _ (keyT_D (hk x hx).1.1) rr
    subst hn
    exact ⟨[], by rw [e]; exact PyProof.Rows.Reads.keeps (fun b o q => Heap.get?_push_of_some _ (hkp b o q)) rr, fun z => by cases z⟩
  · have h8 := (hk x hx).1.2
    have e1 : X.A.in1.units = X.A.units + 1 := by first | rfl | simp
    show X.A.in1.units + 1 + x.1.depth < cLine
    omega
  · obtain ⟨c, hcc⟩ := sortedHeap_at (vs := acc.toList) (out := out.toArray) hoL
    have hlen2 : ((xs.mergeSort (PySem.W.dataLe false (·.1))).map fun x => V.ref x.2.1).length ≤ sizeLine := by
      rw [List.length_map, List.length_mergeSort]; exact h2
    have hkeep : ∀ b u, s.heap.get? b = some u → (sortedHeap (h'.push (seqObj "list" acc.toList.toArray 0)) h'.objs.size acc.toList out.toArray).get? b = some u := fun b u e => by
      have qq := hkp b u e
      have hlt := Heap.lt_size qq
      rw [sortedHeap_old (Nat.ne_of_lt hlt) (by rw [size_push']; exact Nat.lt_succ_of_lt hlt)]
      exact Heap.get?_push_of_some _ qq
    have hnn : H h'.objs.size = none := (I.hok.kept hkp).fresh (Nat.le_refl _)
    have hpn : s.heap.get? h'.objs.size = none := by
      cases z : s.heap.get? h'.objs.size with
      | none => rfl
      | some u => exact absurd (Heap.lt_size (hkp _ _ z)) (Nat.lt_irrefl _)
    refine wpAny_pure ⟨_, rfl, ?_⟩
    exact ⟨.ref _, upd H h'.objs.size (.lst ((xs.mergeSort (PySem.W.dataLe false (·.1))).map fun x => V.ref x.2.1)), I.laidN (t' := tk) hkeep hpn hnn ⟨hlen2, out, c, vals_eachK eo, hcc⟩, rfl, q _ hnn⟩
end Sw
/-! part SxG -/
set_option Elab.async false
set_option linter.all false
set_option maxRecDepth 100000
set_option maxHeartbeats 4000000
namespace Sw
open PySem PySem.Spec L2
/-! ## dicts over data -/
mutual
theorem lp_dd {K : PySem.W.Frag} {H : Hp} : ∀ (d : PyData) (v : V), keyD d = true → Dp K H v d → Dd K H v d
  | .none, _, _, h => by cases h; exact .non
  | .bool b, _, _, h => by cases h; exact .bl b
  | .int i, _, _, h => by cases h; exact .int i
  | .str x, _, _, h => by cases h; exact .str x
  | .tuple ds, _, k, h => by
    cases h with
    | tup hs ha => exact .tup hs (lps_dd ds _ k ha)
  | .list _, _, k, _ => by cases k
  | .dict _, _, k, _ => by cases k
theorem lps_dd {K : PySem.W.Frag} {H : Hp} : ∀ (ds : List PyData) (vs : List V), keyAll ds = true → DpAll K H vs ds → DdAll K H vs ds
  | [], _, _, h => by cases h; exact .nil
  | d :: ds, _, k, h => by
    simp only [keyAll, Bool.and_eq_true] at k
    cases h with
    | cons h1 h2 => exact .cons (lp_dd d _ k.1 h1) (lps_dd ds _ k.2 h2)
end
theorem flat_dd {K : PySem.W.Frag} {B : Hp} {v : V} {d : PyData} (h : FlatV v d) : Dd K B v d := by
  cases d with
  | none => rw [show v = .non from h]; exact .non
  | bool b => rw [show v = .bl b from h]; exact .bl b
  | int i => rw [show v = .int i from h]; exact .int i
  | str x => rw [show v = .str x from h]; exact .str x
  | list _ => exact h.elim
  | tuple _ => exact h.elim
  | dict _ => exact h.elim
theorem dd_flat {K : PySem.W.Frag} {B : Hp} {v : V} {d : PyData} (h : Dd K B v d) (hf : flatD d = true) : FlatV v d := by
  cases h with
  | non => rfl
  | bl b => rfl
  | int i => rfl
  | str x => rfl
  | lst _ _ => cases hf
  | tup _ _ => cases hf
  | scr _ => cases hf
  | ref _ => cases hf
  | dic _ _ _ => cases hf
noncomputable def look (kvs : List (PyData × PyData)) (d : PyData) : Option PyData := (kvs.find? fun kv => decide (kv.1 = d)).map (·.2)
theorem look_prd {K : PySem.W.Frag} {H : Hp} {kvs : List (PyData × PyData)} {xs : List (PyData × Addr × V)} {d : PyData} (r : PrD K H kvs xs) : (look kvs d = none ∧ lookV xs d = none) ∨ ∃ e v, look kvs d = some e ∧ lookV xs d = some v ∧ FlatV v e := by
  unfold PrD at r
  induction r with
  | nil => exact .inl ⟨rfl, rfl⟩
  | @cons x y xs ys h t ih =>
    unfold lookV look at ih ⊢
    rw [List.find?_cons, List.find?_cons]
    by_cases e : x.1 = d
    · rw [decide_eq_true e, decide_eq_true (h.1.symm.trans e)]
      exact .inr ⟨_, _, rfl, rfl, h.2.2⟩
    · rw [decide_eq_false e, decide_eq_false (fun z => e (h.1.trans z))]
      exact ih
theorem prd_keys {K : PySem.W.Frag} {H : Hp} {kvs : List (PyData × PyData)} {xs : List (PyData × Addr × V)} (r : PrD K H kvs xs) : ∀ x ∈ xs, KeyIn K H x.1 x.2.1 ∧ ∃ kv ∈ kvs, kv.1 = x.1 := by
  unfold PrD at r
  induction r with
  | nil => intro x hx; cases hx
  | @cons a b as bs h t ih =>
    intro x hx
    rcases List.mem_cons.mp hx with e | hx
    · subst e; exact ⟨h.2.1, a, List.mem_cons_self, h.1⟩
    · obtain ⟨h1, kv, h2, h3⟩ := ih x hx
      exact ⟨h1, kv, List.mem_cons_of_mem _ h2, h3⟩
theorem prd_map {K : PySem.W.Frag} {H : Hp} {kvs : List (PyData × PyData)} {xs : List (PyData × Addr × V)} (r : PrD K H kvs xs) : kvs.map (·.1) = xs.map (·.1) := by
  unfold PrD at r
  induction r with
  | nil => rfl
  | cons h t ih => rw [List.map_cons, List.map_cons, ih, h.1]
section
variable {K : PySem.W.Frag} {w : World} {B H : Hp} {kvs : List (PyData × PyData)} {v : V}
theorem dd_dic (h : Dd K B v (dicD w kvs)) : ∃ a w' ep xs, v = .ref a ∧ B a = some (DicO w' a ep xs) ∧ PrD K B kvs xs ∧ ∀ x ∈ xs, hashD w' x.1 = hashD w x.1 := by
  unfold dicD at h
  cases h with
  | @dic w' a ep xs _ _ h1 e r =>
    refine ⟨a, w', ep, xs, rfl, h1, r, fun x hx => ?_⟩
    obtain ⟨_, kv, hkv, e2⟩ := prd_keys r x hx
    have := List.map_inj_left.mp e kv hkv
    rw [← e2]
    exact (PyData.int.inj this).symm
variable {τ : Tau} {td ty tz te : TE} {ds : List PyData} {e z : PyData}
theorem od_ixN (hk : okK (.tuple ds)) (hl : look kvs (.tuple ds) = some e) : OpD K (rIxN K w) (dicD w kvs) (.tuple ds) (.dt e) := fun B H v u eq hx hy Q q => by
  obtain ⟨a, w', ep, xs, rfl, h1, r, hh⟩ := dd_dic hx
  obtain ⟨b, rfl⟩ := dd_ref hy
  rcases look_prd (d := .tuple ds) r with ⟨z, _⟩ | ⟨e', v, z1, z2, fl⟩
  · rw [hl] at z; cases z
  · rw [hl] at z1
    cases z1
    exact ⟨a, b, ep, xs, _, v, rfl, rfl, ⟨w', eq _ _ h1, hh⟩, key_in eq hk hy, fun x hx => key_same eq (prd_keys r x hx).1, z2, q _ B H (Step.refl eq) (flat_dd fl)⟩
theorem ev_dgetN (h1 : EvS K td τ (dicD w kvs)) (h2 : EvS K ty τ (.tuple ds)) (h3 : EvS K tz τ z) (hk : okK (.tuple ds)) : EvX K (tDGetN K w td ty tz) τ (.dt ((look kvs (.tuple ds)).getD z)) := fun σ B H hs eq Q q =>
  h1 σ B H hs eq _ fun v B1 H1 s1 d1 => by
    obtain ⟨a, w', ep, xs, rfl, hB, r, hh⟩ := dd_dic d1
    refine ⟨a, rfl, ⟨ep, xs, w', s1.i _ _ hB, hh⟩, h2 σ B1 H1 (hs.same s1.b) s1.i _ fun u B2 H2 s2 d2 => h3 σ B2 H2 (hs.same (s1.trans s2).b) s2.i _ fun zv B3 H3 s3 d3 => ?_⟩
    obtain ⟨b, rfl⟩ := dd_ref d2
    have e3 : Same B1 H3 := (s2.trans s3).b.trans s3.i
    refine ⟨b, ep, xs, _, rfl, ⟨w', e3 _ _ hB, hh⟩, key_in s3.i hk (dp_same s3.b _ _ d2), fun x hx => key_same e3 (prd_keys r x hx).1, ?_⟩
    rcases look_prd (d := .tuple ds) r with ⟨z1, z2⟩ | ⟨e', v, z1, z2, fl⟩
    · rw [z2]
      refine q _ B3 H3 ((s1.trans s2).trans s3) ?_
      rw [z1]; exact d3
    · rw [z2]
      refine q _ B3 H3 ((s1.trans s2).trans s3) ?_
      rw [z1]; exact flat_dd fl
theorem ie_dicN (h : EvS K td τ (dicD w kvs)) : IterE K (iDicN td) τ (kvs.map (·.1)) := fun σ B H hs eq R q => h σ B H hs eq _ fun v B1 H1 s1 d1 => by
  obtain ⟨a, w', ep, xs, rfl, hB, r, hh⟩ := dd_dic d1
  have hl : (kvs.map (·.1)).length = xs.length := by rw [prd_map r, List.length_map]
  refine ⟨a, w', ep, xs, rfl, s1.i _ _ hB, q _ B1 H1 s1 ⟨fun i H e hi => ⟨e _ _ hB, by rw [hl] at hi; exact hi⟩, fun H e => ⟨e _ _ hB, by rw [hl]; exact Nat.le_refl _⟩, fun i H x H' y e hx hy B2 e1 e2 => ?_⟩⟩
  obtain ⟨rfl, k, b, u, hxi, rfl⟩ := hy
  rw [prd_map r, List.getElem?_map, hxi] at hx
  cases hx
  have hkey := (prd_keys r _ (List.mem_of_getElem? hxi)).1
  exact ⟨B2, Step.refl e2, dp_same e1 _ _ (lp_dd _ _ (keyT_D hkey.1.1) hkey.2)⟩
theorem cd_sortDk (hal : PySem.W.AllAlike (kvs.map (·.1))) (hso : PySem.W.Sortable (kvs.map (·.1))) : CbD K (rSortDk K) [dicD w kvs] (.ls (sortD (kvs.map (·.1)))) := fun B H vs eq hv Q q => by
  cases hv with
  | cons h1 h2 =>
    cases h2
    obtain ⟨a, w', ep, xs, rfl, hB, r, hh⟩ := dd_dic h1
    rw [prd_map r] at hal hso q
    refine ⟨a, w', ep, xs, rfl, eq _ _ hB, fun x hx => key_same eq (prd_keys r x hx).1, hal, hso, fun p hp => q _ _ _ (Step.own eq hp) ⟨p, _, rfl, hp, upd_same, Same.free eq hp, _, rfl, ?_⟩⟩
    have e3 : (xs.mergeSort (PySem.W.dataLe false (·.1))).map (·.1) = sortD (xs.map (·.1)) := by
      unfold sortD
      exact List.map_mergeSort (fun a _ b _ => rfl)
    rw [← e3]
    have aux : ∀ l : List (PyData × Addr × V), (∀ x ∈ l, x ∈ xs) → DdAll K B (l.map fun x => V.ref x.2.1) (l.map (·.1)) := by
      intro l
      induction l with
      | nil => intro _; exact .nil
      | cons x l ih =>
        intro hl
        have hkey := (prd_keys r x (hl x List.mem_cons_self)).1
        exact .cons (lp_dd _ _ (keyT_D hkey.1.1) hkey.2) (ih fun y hy => hl y (List.mem_cons_of_mem _ hy))
    exact aux _ fun x hx => (List.mergeSort_perm _ _).mem_iff.mp hx
theorem ev_dnewN : EvX K (tDNewN w) τ (dcN w []) := fun σ B H hs e Q q p hp => q _ B _ (Step.own e hp) ⟨p, _, rfl, hp, upd_same, Same.free e hp, DicR.ow ⟨0, [], rfl, .nil⟩⟩
end
/-! own dicts -/
def flatK (kvs : List (PyData × PyData)) : Prop := ∀ kv ∈ kvs, flatD kv.2 = true
noncomputable def stk (kvs : List (PyData × PyData)) (k e : PyData) : List (PyData × PyData) := if k ∈ kvs.map (·.1) then kvs.map (fun kv => if kv.1 = k then (kv.1, e) else kv) else kvs ++ [(k, e)]
section
variable {K : PySem.W.Frag} {w : World} {B0 H0 B H : Hp} {σ : St} {τ : List SD} {E : DEnds} {kvs : List (PyData × PyData)} {i j : Nat} {te tv : TE} {t1 : TS} {ds : List PyData} {d e : PyData}
/-- the own object in the slot i becomes data -/
theorem StB.frzG {sd : SD} (S : StB K B0 H0 B τ σ H) (hi : τ[i]? = some sd) (hw : sd.owned = true) (hd : ∀ p o, B p = none → OwRel K B p sd o → Dd K (upd B p o) (.ref p) d) : ∃ B', StB K B0 H0 B' (τ.set i (.dt d)) σ H ∧ Same B B' := by
  have hil : i < τ.length := (List.getElem?_eq_some_iff.mp hi).1
  rcases S.sl i _ hi with z | ⟨v, h1, h2⟩
  · rw [z] at hw; cases hw
  obtain ⟨p, o, rfl, n, h3, n2, h4⟩ := h2.own hw
  have sb : Same B (upd B p o) := same_upd n2
  refine ⟨upd B p o, ⟨S.st.frz n h3 n2, by rw [List.length_set]; exact S.len, fun j sj h => ?_, fun j k sj sk q hjk h1' h2' o1 o2 e1 e2 => ?_⟩, sb⟩
  · rcases set_get h with ⟨rfl, rfl, hl⟩ | ⟨hj, h⟩
    · exact .inr ⟨_, h1, hd p o n2 h4⟩
    · rcases S.sl j sj h with z | ⟨v, g1, g2⟩
      · exact .inl z
      · refine .inr ⟨v, g1, ?_⟩
        cases hs : sj.owned with
        | false =>
          cases sj with
          | no => trivial
          | dt d => exact dp_same sb _ _ g2
          | ls ds => cases hs
          | dc R => cases hs
          | ex c => exact (VRel.ex g2).elim
        | true =>
          obtain ⟨p2, o2, rfl, m, g3, m2, g4⟩ := g2.own hs
          have hne : p2 ≠ p := fun z => S.ap j i sj _ p hj h hi hs hw (by rw [g1, z]) h1
          exact VRel.mk m g3 (by rw [upd_ne hne]; exact m2) (owRel_same sb g4)
  · rcases set_get h1' with ⟨rfl, rfl, _⟩ | ⟨hj, z1⟩
    · cases o1
    · rcases set_get h2' with ⟨rfl, rfl, _⟩ | ⟨hk, z2⟩
      · cases o2
      · exact S.ap j k sj sk q hjk z1 z2 o1 o2 e1 e2
theorem paired_mem {α β : Type} {F G : α → β → Prop} {l : List α} {m : List β} (h : Paired F l m) (f : ∀ a b, a ∈ l → F a b → G a b) : Paired G l m := by
  induction h with
  | nil => exact .nil
  | cons h t ih => exact .cons (f _ _ List.mem_cons_self h) (ih fun a b ha => f a b (List.mem_cons_of_mem _ ha))
theorem dic_data {p : Addr} {o : HO} (hf : flatK kvs) (hn : B p = none) (h : OwRel K B p (dcN w kvs) o) : Dd K (upd B p o) (.ref p) (dicD w kvs) := by
  obtain ⟨ep, xs, rfl, r⟩ := ow_dic h
  have sb := same_upd (o := DicO w p ep xs) hn
  refine .dic upd_same rfl (paired_mem r fun kv x hkv z => ⟨z.1, key_in sb z.2.1 z.2.2.1, dd_flat z.2.2.2 (hf kv hkv)⟩)
theorem StB.frzD (S : StB K B0 H0 B τ σ H) (hi : τ[i]? = some (dcN w kvs)) (hf : flatK kvs) : ∃ B', StB K B0 H0 B' (τ.set i (.dt (dicD w kvs))) σ H ∧ Same B B' := S.frzG hi rfl fun p o hn h => dic_data hf hn h
theorem ws_frzD (i : Nat) (hi : τ[i]? = some (dcN w kvs)) (hf : flatK kvs) (k : WS K t1 (τ.set i (.dt (dicD w kvs))) E) : WS K t1 τ E := fun B0 H0 D σ H ⟨B, S⟩ A => by
  obtain ⟨B', S', _⟩ := S.frzD hi hf
  exact k B0 H0 D σ H ⟨B', S'⟩ A
theorem StB.evD {Q : VK} (S : StB K B0 H0 B τ σ H) (hi : τ[i]? = some (dcN w kvs)) (hf : flatK kvs) (h : EvS K te (dv (τ.set i (.dt (dicD w kvs)))) d) (hd : flatD d = true) (q : ∀ v H', StB K B0 H0 B τ σ H' → Same H H' → (∀ B, Dd K B v d) → Q v H') : te σ H Q := by
  obtain ⟨B', S', e⟩ := S.frzD hi hf
  exact h σ B' H S'.slD S'.st.i Q fun v B2 H2 s w => q v H2 (S.later s.h) s.h fun B => dp_flat w hd
theorem dps_flats {B B' : Hp} : ∀ {ds : List PyData} {vs : List V}, DdAll K B vs ds → (∀ d ∈ ds, flatD d = true) → DdAll K B' vs ds
  | [], _, h, _ => by cases h; exact .nil
  | d :: ds, _, h, k => by
    cases h with
    | cons h1 h2 => exact .cons (dp_flat h1 (k d List.mem_cons_self)) (dps_flats h2 fun x hx => k x (List.mem_cons_of_mem _ hx))
/-- a list of flat things, read off an own dict -/
theorem ws_setLD (hi : τ[i]? = some (dcN w kvs)) (hf : flatK kvs) (h : EvX K te (dv (τ.set i (.dt (dicD w kvs)))) (.ls ds)) (hd : ∀ d ∈ ds, flatD d = true) (k : E.nx (τ.set j (.ls ds))) : WS K (tAsg te (gName j)) τ E := fun B0 H0 D σ H ⟨B, S⟩ A => by
  obtain ⟨B', S', e⟩ := S.frzD hi hf
  refine h σ B' H S'.slD S'.st.i _ fun v B2 H2 s w => ?_
  obtain ⟨p, o, rfl, n1, n2, n3, vs, rfl, n4⟩ := w
  exact A.nx _ _ _ k ⟨B, (S.later s.h).putN S ⟨p, _, rfl, n1, n2, Same.free (e.trans s.b) n3, vs, rfl, dps_flats n4 hd⟩⟩
theorem pr_store {xs : List (PyData × Addr × V)} {v : V} {kk : PyData} (h : Paired (fun (kv : PyData × PyData) x => kv.1 = x.1 ∧ okK x.1 ∧ Dd K B (.ref x.2.1) x.1 ∧ Dd K B x.2.2 kv.2) kvs xs) (hv : Dd K B v e) :
    Paired (fun (kv : PyData × PyData) x => kv.1 = x.1 ∧ okK x.1 ∧ Dd K B (.ref x.2.1) x.1 ∧ Dd K B x.2.2 kv.2) (kvs.map fun kv => if kv.1 = kk then (kv.1, e) else kv) (xs.map fun x => if x.1 = kk then (x.1, x.2.1, v) else x) := by
  induction h with
  | nil => exact .nil
  | @cons a b as bs h t ih =>
    rw [List.map_cons, List.map_cons]
    refine .cons ?_ ih
    by_cases z : a.1 = kk
    · rw [if_pos z, if_pos (h.1.symm.trans z)]; exact ⟨h.1, h.2.1, h.2.2.1, hv⟩
    · rw [if_neg z, if_neg (fun y => z (h.1.trans y))]; exact h
/-- d[k] = v, where v may be read off d -/
theorem ws_nputD (hi : τ[i]? = some (dcN w kvs)) (hf : flatK kvs) (h : EvS K te (dv τ) (.tuple ds)) (hk : okK (.tuple ds)) (hv : EvS K tv (dv (τ.set i (.dt (dicD w kvs)))) e) (he : flatD e = true) (hl : kvs.length < sizeLine) (k : E.nx (τ.set i (dcN w (stk kvs (.tuple ds) e)))) :
    WS K (sNPut K w (tVar i) te tv) τ E := fun B0 H0 D σ H ⟨B, S⟩ A => by
    show tv σ H _
    refine S.evD hi hf hv he fun v H1 S1 _ d1 => ?_
    obtain ⟨p, ep0, xs0, e1, _, _⟩ := S1.dic hi
    refine ⟨_, e1, h σ B H1 S1.slD S1.st.i _ fun y B2 H2 st d2 => ?_⟩
    have S2 := S1.step st
    obtain ⟨b, rfl⟩ := dd_ref d2
    obtain ⟨p2, ep, xs, e2, e3, r⟩ := S2.dic hi
    rw [e1] at e2
    cases e2
    have hlx : xs.length = kvs.length := (Paired.length r).symm
    refine ⟨p, b, ep, xs, _, rfl, rfl, e3, key_in S2.st.i hk d2, pr_in S2.st.i r, by rw [hlx]; exact hl, ?_⟩
    by_cases hm : PyData.tuple ds ∈ kvs.map (·.1)
    · refine .inr ⟨by rw [← pr_keys r]; exact hm, fun ep2 => ?_⟩
      refine A.nx _ _ _ k ⟨B2, S2.mut hi rfl e1 rfl (DicR.ow ⟨ep2, _, rfl, ?_⟩)⟩
      unfold stk
      rw [if_pos hm]
      exact pr_store r (d1 B2)
    · refine .inl ⟨by rw [← pr_keys r]; exact hm, fun ep2 => ?_⟩
      refine A.nx _ _ _ k ⟨B2, S2.mut hi rfl e1 rfl (DicR.ow ⟨ep2, _, rfl, ?_⟩)⟩
      unfold stk
      rw [if_neg hm]
      exact Paired.snoc r ⟨rfl, hk, d2, d1 B2⟩
end
end Sw
/-! part SwK -/
set_option Elab.async false
set_option linter.all false
set_option maxRecDepth 100000
set_option maxHeartbeats 4000000
namespace Sw
open PySem PySem.Spec
/-! ## sets of texts: each text once, by its first place -/
def ddp (ys : List Str) : List Str := ys.foldl PyProof.Rows.step_dedup []
theorem ddp_snoc (ys : List Str) (y : Str) : ddp (ys ++ [y]) = PyProof.Rows.step_dedup (ddp ys) y := by
  unfold ddp
  rw [List.foldl_append]; rfl
theorem dd_any (l : List Str) (y z : Str) : (PyProof.Rows.step_dedup l y).any (· == z) = (l.any (· == z) || decide (z = y)) := by
  unfold PyProof.Rows.step_dedup
  by_cases h : l.any (· == y) = true
  · rw [if_pos h]
    by_cases e : z = y
    · rw [e, h]; rfl
    · rw [decide_eq_false e, Bool.or_false]
  · rw [if_neg h, List.any_append]
    by_cases e : z = y
    · rw [e]; simp
    · have hb : (y == z) = false := beq_eq_false_iff_ne.mpr fun k => e k.symm
      rw [List.any_cons, hb, decide_eq_false e]; rfl
theorem dd_len (l : List Str) (y : Str) : (PyProof.Rows.step_dedup l y).length = if l.any (· == y) then l.length else l.length + 1 := by
  unfold PyProof.Rows.step_dedup
  split
  · rfl
  · rw [List.length_append]; rfl
theorem ddp_le : ∀ (n : Nat) (ys : List Str), ys.length = n → (ddp ys).length ≤ n
  | 0, ys, h => by rw [List.length_eq_zero_iff.mp h]; exact Nat.le_refl _
  | n + 1, ys, h => by
    have hne : ys ≠ [] := fun z => by rw [z] at h; cases h
    have e : ys = ys.dropLast ++ [ys.getLast hne] := (List.dropLast_concat_getLast hne).symm
    have ih := ddp_le n ys.dropLast (by rw [List.length_dropLast]; omega)
    rw [e, ddp_snoc, dd_len]
    split <;> omega
/-- the set of texts at a: S its members, n their number; its table rises and can be walked -/
def SetX (P : Program) (w : World) (h : Heap) (a : Addr) (S : Str → Bool) (n : Nat) : Prop :=
  ∃ o es ep t, h.get? a = some o ∧ o.ExactSet ∧ o.data = .set es ep t ∧ ElemsOf (strKind P w) es.toList ∧ (∀ k, S k = true ↔ ∃ e ∈ es.toList, (strKind P w).is k e.2 = true) ∧
    es.size < scanBound ∧ t.fits es.size = true ∧ es.size = n ∧ L2.Ris t.place.toList ∧ (w.params.followText "set-order" = true ∨ t.led = true)
section
variable {P : Program} {w : World} {A : Around} {E : Value → Shared → Prop} {s : Shared} {a : Addr} {S : Str → Bool} {n : Nat}
theorem SetX.setOf {h : Heap} (R : SetX P w h a S n) : h.SetOf (strKind P w) a S n := by
  obtain ⟨o, es, ep, t, ho, hx, hd, g, hm, hb, hf, hn, _⟩ := R
  exact ⟨o, es, ep, t, ho, hx, hd, g, hm, hb, hf, hn⟩
theorem SetX.at {h h' : Heap} (R : SetX P w h a S n) (k : ∀ o, h.get? a = some o → h'.get? a = some o) : SetX P w h' a S n := by
  obtain ⟨o, es, ep, t, ho, r⟩ := R
  exact ⟨o, es, ep, t, k o ho, r⟩
theorem SetX.congr {h : Heap} {S' : Str → Bool} {n' : Nat} (R : SetX P w h a S n) (e : ∀ k, S' k = S k) (e2 : n' = n) : SetX P w h a S' n' := by
  have q : S' = S := funext e
  rw [q, e2]; exact R
theorem addTailX {g : Bool → Sem Unit} (hg : ∀ (b : Bool) (s₁ : Shared) (Q' : Unit → Shared → Prop), Q' () s₁ → wpAny (model P w) A (g b) Q' E s₁)
    {o : Obj} {es : Array (Int × Value)} {ep : Nat} {t : SetTable} (ho : s.heap.get? a = some o) (hex : o.ExactSet) (hd : o.data = .set es ep t)
    {es1 : Array (Int × Value)} {t2 : SetTable} {S' : Str → Bool} (hel1 : ElemsOf (strKind P w) es1.toList) (hmem1 : ∀ k', S' k' = true ↔ ∃ e ∈ es1.toList, (strKind P w).is k' e.2 = true)
    (hb1 : es1.size < scanBound) (hf2 : t2.fits es1.size = true) (hr : L2.Ris t2.place.toList) (hl : w.params.followText "set-order" = true ∨ t2.led = true) {wasDummy : Bool} {R : Option Bool → Shared → Prop}
    (h : ∀ h', Heap.SameBut a s.heap h' → SetX P w h' a S' es1.size → R (some true) { s with heap := h' }) :
    wpAny (model P w) A (do
        storeSet a es1 t2
        if (!wasDummy && t2.tooFull) = true then do
            g (relayAll t2 es1 (SetTable.grown es1.size)).2.2
            storeSet a (relayAll t2 es1 (SetTable.grown es1.size)).1 (relayAll t2 es1 (SetTable.grown es1.size)).2.1
            pure (some true)
          else pure (some true)) R E s := by
  refine wpAny_bind (wpAny_storeSet_of ho hd ?_ (fits_of_scanBound hb1))
  have ho1 := L2.store_at (es' := es1) (t' := t2) ho hd
  have sb1 := Heap.SameBut.update s.heap a (Obj.putSet es1 t2)
  split
  · have hp := relayAll_perm t2 es1 (SetTable.grown es1.size)
    have hf3 := relayAll_fits t2 es1 (SetTable.grown es1.size)
    have hr3 := L2.relayAll_ris t2 es1 (SetTable.grown es1.size)
    have hl3 := L2.relayAll_led t2 es1 (SetTable.grown es1.size)
    generalize relayAll t2 es1 (SetTable.grown es1.size) = Z at hp hf3 hr3 hl3 ⊢
    obtain ⟨es2, t3, gave⟩ := Z
    dsimp only at hp hf3 hr3 hl3 ⊢
    have hel2 : ElemsOf (strKind P w) es2.toList := hel1.perm hp
    have hmem2 : ∀ k', S' k' = true ↔ ∃ e ∈ es2.toList, (strKind P w).is k' e.2 = true := fun k' => (hmem1 k').trans ⟨fun ⟨e, he, q⟩ => ⟨e, hp.mem_iff.mpr he, q⟩, fun ⟨e, he, q⟩ => ⟨e, hp.mem_iff.mp he, q⟩⟩
    have hsz : es2.size = es1.size := by rw [← Array.length_toList, hp.length_eq, Array.length_toList]
    have hb2 : es2.size < scanBound := by rw [hsz]; exact hb1
    refine wpAny_bind (hg _ _ _ ?_)
    refine wpAny_bind (wpAny_storeSet_of ho1 rfl ?_ (fits_of_scanBound hb2))
    have ho2 := L2.store_at (es' := es2) (t' := t3) ho1 rfl
    exact wpAny_pure (h _ (sb1.trans (Heap.SameBut.update _ a _)) ⟨_, es2, _, t3, ho2, hex, rfl, hel2, hmem2, hb2, hf3, hsz, hr3, hl.imp id fun z => by rw [hl3]; exact z⟩)
  · exact wpAny_pure (h _ sb1 ⟨_, es1, _, t2, ho1, hex, rfl, hel1, hmem1, hb1, hf2, rfl, hr, hl⟩)
theorem addX {k : Str} {x : Value} {Q : Bool → Shared → Prop} (hkey : (strKind P w).is k x = true) (hsc : x.scannable = true) (hS : SetX P w s.heap a S n) (hroom : n + 1 < scanBound)
    (h : ∀ h', Heap.SameBut a s.heap h' → SetX P w h' a (fun k' => S k' || decide (k' = k)) (if S k then n else n + 1) → Q (!S k) { s with heap := h' }) :
    wpAny (model P w) A (setAddHashed a x ((strKind P w).hash k)) Q E s := by
  obtain ⟨o, es, ep, t, ho, hex, hd, hel, hmem, hb, hf, hn, hrs, hld⟩ := hS
  have hb1 : es.size + 1 < scanBound := by rw [hn]; exact hroom
  unfold setAddHashed setAddHashedIn
  refine wpAny_holding (wpAny_bind (wpAny_setState_of ho hd hf ?_))
  dsimp only
  rw [byScan_of hsc hb hel]
  simp only [↓reduceIte]
  unfold setAddByScan
  refine wpAny_bind ?_
  refine wpAny_bind (wpAny_rule ?_)
  refine wpAny_bind (wpAny_setScan_of hkey ho hd hf hel ?_)
  cases hr : List.findIdx? (fun e => (strKind P w).is k e.2) es.toList with
  | some j =>
    dsimp only
    obtain ⟨hj, hpj, _⟩ := List.findIdx?_eq_some_iff_getElem.mp hr
    have hSk : S k = true := (hmem k).mpr ⟨es.toList[j], List.getElem_mem hj, hpj⟩
    refine wpAny_pure (wpAny_pure ?_)
    have e : s = { s with heap := s.heap } := by cases s; rfl
    have := h s.heap (Heap.SameBut.refl a s.heap) ⟨o, es, ep, t, ho, hex, hd, hel, fun k' => by
      rw [Bool.or_eq_true, decide_eq_true_eq, ← hmem k']
      exact ⟨fun hk => hk.elim id (fun e => e ▸ hSk), .inl⟩, hb, hf, by rw [hSk]; exact hn, hrs, hld⟩
    rw [hSk] at this; rw [e]; exact this
  | none =>
    dsimp only
    have hSk : S k = false := by
      cases hk : S k with
      | false => rfl
      | true => obtain ⟨e, he, hp⟩ := (hmem k).mp hk; have := List.findIdx?_eq_none_iff.mp hr e he; rw [hp] at this; exact Bool.noConfusion this
    have hgw : ∀ (b : Bool) {s₁ : Shared} {Q' : Unit → Shared → Prop}, Q' () s₁ → wpAny (model P w) A (match b with | true => rule "set.scan.the-table-gave-way" | false => pure ()) Q' E s₁ :=
      fun b s₁ Q' hq => by cases b <;> first | exact wpAny_pure hq | exact wpAny_rule hq
    have hperm := layNew_perm t es ((strKind P w).hash k) x
    have hfits := layNew_fits t es ((strKind P w).hash k) x
    have hr1 := L2.layNew_ris t es ((strKind P w).hash k) x hrs
    have hl1 := L2.layNew_led t es ((strKind P w).hash k) x
    generalize hL : layNew t es ((strKind P w).hash k) x = L at hperm hfits hr1 hl1 ⊢
    obtain ⟨es1, t1, wasDummy, gave⟩ := L
    dsimp only at hperm hfits hr1 hl1 ⊢
    rw [Array.toList_push] at hperm
    have hel1 : ElemsOf (strKind P w) es1.toList := (hel.push hkey hsc).perm hperm
    have hmem1 : ∀ k', (S k' || decide (k' = k)) = true ↔ ∃ e ∈ es1.toList, (strKind P w).is k' e.2 = true := mem_push_iff hkey hmem hperm
    have hb1' : es1.size < scanBound := by rw [← Array.length_toList, hperm.length_eq, List.length_append, Array.length_toList]; simpa using hb1
    have hled : w.params.followText "set-order" = true ∨ t1.led = true := hld.imp id fun z => by rw [hl1]; exact z
    refine wpAny_bind (hgw _ ?_)
    have hsz1 : es1.size = n + 1 := by rw [← Array.length_toList, hperm.length_eq, List.length_append, Array.length_toList, hn]; rfl
    have hend : ∀ h', Heap.SameBut a s.heap h' → SetX P w h' a (fun k' => S k' || decide (k' = k)) es1.size → Q true { s with heap := h' } := by
      intro h' hsb hS'; have := h h' hsb; rw [hSk] at this; rw [hsz1] at hS'; exact this hS'
    split
    · refine wpAny_bind ?_
      rw [hashByValue_scannable 8 hsc]
      refine wpAny_pure ?_
      refine addTailX ?_ ho hex hd hel1 hmem1 hb1' ?_ ?_ ?_ ?_
      · intro b s₁ Q' hq; cases b <;> first | exact wpAny_pure hq | exact wpAny_rule hq
      · first | (split <;> first | exact hfits | exact SetTable.fits_plain_off hfits) | exact hfits
      · first | (split <;> exact hr1) | exact hr1
      · first | (split <;> exact hled) | exact hled
      · intro h' hsb hS'; dsimp only; exact wpAny_pure (hend h' hsb hS')
    · refine wpAny_bind (wpAny_pure ?_)
      simp only [↓reduceIte]
      refine addTailX ?_ ho hex hd hel1 hmem1 hb1' hfits hr1 hled ?_
      · intro b s₁ Q' hq; cases b <;> first | exact wpAny_pure hq | exact wpAny_rule hq
      · intro h' hsb hS'; dsimp only; exact wpAny_pure (hend h' hsb hS')
theorem code_set_ledA (x : Value) {Q₁ : Value → Shared → Prop}
    (h : Q₁ (.ref s.heap.objs.size) { s with heap := s.heap.push { cls := .type "set", dict := none, data := .set #[] 0 (.fresh 0 0 (!w.params.followText "set-order")) } }) :
    codeAny (model P w) A (.call (.builtin "set.__new__") ⟨[.type "set", x], []⟩) (wants Q₁ E) s := by
  refine codeAny_of_tree ?_
  show wpAny _ A.in1 (do checkBuiltinCall "set.__new__" ⟨[.type "set", x], []⟩; again (.builtin "set.__new__" ⟨[.type "set", x], []⟩)) _ _ s
  refine wpAny_bind (wpAny_of_eq (F.newCall_set_1 x) (wpAny_pure ⟨plainId_quiet F.plain_set_new _, codeAny_builtin F.entry_set_new ?_⟩))
  rw [Around.under_plainId F.plain_set_new _]
  unfold Builtin.«set.__new__» Builtin.Frozenset.newClass
  have hsub := sub_set_self
  obtain ⟨hp, g, d, tk, os⟩ := s
  dsimp only
  wp_walk
  refine wpAny_askSetting (wpAny_pure ?_)
  dsimp only
  simp only [newObj]
  refine wpAny_bind (wpAny_alloc (wpAny_pure ?_))
  exact wpAny_pure h
theorem setX_fresh {h : Heap} (hS : h.get? a = some { cls := .type "set", dict := none, data := .set #[] 0 (.fresh 0 0 (!w.params.followText "set-order")) }) : SetX P w h a (fun _ => false) 0 :=
  ⟨_, #[], 0, _, hS, ⟨rfl, rfl, rfl⟩, rfl, (fun e he => by simp at he), (fun k => by simp), (by decide), (by rfl), rfl, List.Pairwise.nil, by
    show _ ∨ (!w.params.followText "set-order") = true
    cases w.params.followText "set-order"
    · exact .inr rfl
    · exact .inl rfl⟩
end
section
variable {prog : Program} {w : World} {A : Around} {R : Result → Shared → Prop} {I : Addr} {fp wr : List Addr} {G : Array GenState → Array GenState → Prop} {n : Nat} {P : Nat → Value → Prop} {St : Nat → Shared → Prop}
/-- the loop that puts the texts in -/
theorem set_loop (Wk : WalksS prog w A.in1 I fp wr G n P St) (S : Addr) (hSf : S ∉ fp) (ys : List Str) (hval : ∀ i v, P i v → ∃ y t, ys[i]? = some y ∧ v = .str y t) (hb : n + 1 < scanBound) :
    ∀ (k i : Nat) (s : Shared), n - i = k → i ≤ n → St i s →
      SetX prog w s.heap S (fun z => (ddp (ys.take i)).any (· == z)) (ddp (ys.take i)).length →
      (∀ s', Moved (S :: wr) G s s' → SetX prog w s'.heap S (fun z => (ddp (ys.take n)).any (· == z)) (ddp (ys.take n)).length → R (.ok (.ret .none)) s') →
      codeAny (model prog w) A (.builtin "set.update.loop" ⟨[.ref S, .ref I], []⟩) R s := by
  have hSw : S ∉ wr := fun h => hSf (Wk.sub _ h)
  have up : ∀ b ∈ wr, b ∈ S :: wr := fun b hb => List.mem_cons_of_mem _ hb
  intro k
  induction k with
  | zero =>
    intro i s hk hi hst hS hR
    obtain rfl : i = n := by omega
    refine codeAny_builtin PyProof.Rows.F.entry_set_update_loop ?_
    rw [Around.under_plainId PyProof.Rows.F.plain_set_update_loop _]
    show wpAny _ A.in1 (pyNext (.ref I) >>= _) _ _ s
    refine wpAny_bind (Wk.done s _ _ hst fun s' hm => ?_)
    obtain ⟨o, es, ep, t, ho, rest⟩ := hS
    exact wpAny_pure (hR s' (hm.mono up) ⟨o, es, ep, t, hm.heap S _ hSw ho, rest⟩)
  | succ k ih =>
    intro i s hk hi hst hS hR
    have hlt : i < n := by omega
    refine codeAny_builtin PyProof.Rows.F.entry_set_update_loop ?_
    rw [Around.under_plainId PyProof.Rows.F.plain_set_update_loop _]
    show wpAny _ A.in1 (pyNext (.ref I) >>= _) _ _ s
    refine wpAny_bind (Wk.item i s _ _ hlt hst fun v s' hP hst' hm => ?_)
    obtain ⟨y, t, hy, rfl⟩ := hval i v hP
    have hS1 : SetX prog w s'.heap S (fun z => (ddp (ys.take i)).any (· == z)) (ddp (ys.take i)).length := by
      obtain ⟨o, es, ep, tb, ho, rest⟩ := hS
      exact ⟨o, es, ep, tb, hm.heap S _ hSw ho, rest⟩
    have hts : ys.take (i + 1) = ys.take i ++ [y] := by rw [List.take_succ, hy]; rfl
    show wpAny _ A.in1 (holding [Value.str y t] (setAdd S (.str y t)) >>= _) _ _ s'
    refine wpAny_bind (wpAny_holding ?_)
    unfold setAdd
    refine wpAny_holding (wpAny_bind ((strKind prog w).pyHash (k := y) (strKind_is _ _ _ _) ?_))
    have hroom : (ddp (ys.take i)).length + 1 < scanBound := by
      have h1 := ddp_le _ (ys.take i) rfl
      rw [List.length_take] at h1
      omega
    refine addX (s := { s' with toks := s'.toks + 1 }) (strKind_is _ _ _ _) rfl hS1 hroom fun h' hsb hS2 => ?_
    have hS3 : SetX prog w h' S (fun z => (ddp (ys.take (i + 1))).any (· == z)) (ddp (ys.take (i + 1))).length :=
      hS2.congr (fun z => by rw [hts, ddp_snoc, dd_any]) (by rw [hts, ddp_snoc, dd_len])
    refine wpAny_pure ⟨plainId_quiet PyProof.Rows.F.plain_set_update_loop _, ih (i + 1) _ (by omega) hlt (Wk.frame _ s' _ _ hst' (Nat.le_succ _) fun b hb o e => ?_) hS3 fun s2 hm2 hS4 => ?_⟩
    · rw [hsb.2 b (fun h : b = S => hSf (by rw [← h]; exact hb))]; exact e
    · refine hR s2 (Moved.trans Wk.gtrans ((hm.mono up).then_heap (Nat.le_succ _) fun b o hb e => ?_) hm2) hS4
      rw [hsb.2 b (fun h : b = S => hb (by rw [h]; exact List.mem_cons_self))]; exact e
end
section
variable {prog : Program} {w : World} {A : Around} {E : Value → Shared → Prop} {s : Shared}
abbrev freshSet (led : Bool) : Obj := { cls := .type "set", dict := none, data := .set #[] 0 (.fresh 0 0 led) }
/-- what set(list of texts) leaves -/
def MadeSet (prog : Program) (w : World) (s : Shared) (ys : List Str) (h' : Heap) : Prop :=
  SetX prog w h' s.heap.objs.size (fun z => (ddp ys).any (· == z)) (ddp ys).length ∧ ∀ b o, b < s.heap.objs.size → s.heap.get? b = some o → h'.get? b = some o
theorem call_set_strs {l : Addr} {items : Array Value} {ys : List Str} {Q : Value → Shared → Prop} (hh : A.handled = none) (hl : s.heap.IsList l items) (hlen : items.size = ys.length)
    (hi : ∀ (i : Nat) (v : Value), items[i]? = some v → ∃ y t, ys[i]? = some y ∧ v = .str y t) (hb : items.size + 1 < scanBound)
    (h : ∀ (h' : Heap) (tk : Nat), MadeSet prog w s ys h' → Q (.ref s.heap.objs.size) { s with heap := h', toks := tk }) : wpAny (model prog w) A (call (.type "set") [.ref l]) Q E s := by
  obtain ⟨c, tl, hmro⟩ := PySem.F.called_set.mro
  have hmade := PySem.F.called_set.made
  have hsub := PySem.F.called_set.sub
  refine wpAny_call (codeAny_of_tree ?_)
  show wpAny _ _ (callAny (.type "set") _) _ _ _
  refine wpAny_pure ⟨Code.quiet_builtin _ (by decide +kernel), codeAny_builtin PySem.F.entry_type_call ?_⟩
  rw [Around.under_plain (weight_type_call_type "set" [.ref l] []) rfl]
  have h1 := PySem.F.called_set.notType
  have h2 := PySem.F.called_set.canCreate
  have hct := PySem.F.typeCall_set_1 (.ref l)
  repeat (any_goals (first | assumption | wp_step))
  refine codeAny_mono (code_set_ledA (.ref l) (E := E) (Q₁ := fun obj s₁ => ∃ led : Bool, led = (!w.params.followText "set-order") ∧ obj = .ref s.heap.objs.size ∧ s₁ = { s with heap := s.heap.push (freshSet led) }) ⟨_, rfl, rfl, rfl⟩) fun r s₁ hr => ?_
  cases r with
  | error e => exact hr
  | ok fl =>
    cases fl with
    | ret obj =>
      obtain ⟨led, hled0, rfl, rfl⟩ := hr
      have hS : (s.heap.push (freshSet led)).get? s.heap.objs.size = some (freshSet led) := Heap.get?_push_size _ rfl
      have hT : Shared.TypeIs { s with heap := s.heap.push (freshSet led) } (.ref s.heap.objs.size) "set" := ⟨_, hS, rfl⟩
      have hli := PySem.F.called_set.init.lookup
      have hbi := PySem.F.called_set.init.bind (.ref s.heap.objs.size)
      repeat (any_goals (first | assumption | wp_step))
      refine codeAny_mono (codeAny_call_builtin (R := wants (fun r s₂ => r = .none ∧ ∃ h' tk, s₂ = { s with heap := h', toks := tk } ∧ MadeSet prog w s ys h') E) PySem.F.called_set.init.plain PySem.F.entry_set_init (check_set_init_1 hT ?_)) fun r₂ s₂ hr₂ => ?_
      · obtain ⟨⟨ocls, odict, odata, oslots⟩, hol, hcl, nl, hdl⟩ := hl
        simp only at hcl hdl
        subst hcl hdl
        have hol' : (s.heap.push (freshSet led)).get? l = some { cls := .type "list", dict := odict, data := .seq items nl, slots := oslots } := Heap.get?_push_of_some _ hol
        have hsls := PySem.F.sub_list_set
        have hslf := PySem.F.sub_list_frozenset
        have hne : (Value.type "list" == Value.type "dict") = false := by decide
        have hl1 : (s.heap.push (freshSet led)).IsList l items := ⟨_, hol', rfl, nl, rfl⟩
        unfold Builtin.«set.__init__» noKeywords Builtin.Frozenset.updateFrom
        generalize hPI : pyIter = PI
        wp_walk
        subst hPI
        refine wpAny_pyIter_list hl1 (wpAny_bind (wpAny_runValue ?_))
        have hlS : l < s.heap.objs.size := Heap.lt_size hol
        have hh3 : A.in1.in1.in1.handled = none := by simp [hh]
        have hsz : (s.heap.push (freshSet led)).objs.size = s.heap.objs.size + 1 := Heap.size_push ..
        refine set_loop ((Walks.list hh3 _ l (by rw [hsz]; exact Nat.ne_of_lt (Nat.lt_succ_of_lt hlS)) items).toS) s.heap.objs.size (by
          rw [hsz]
          simp only [List.mem_cons, List.not_mem_nil, or_false, not_or]
          exact ⟨Nat.ne_of_lt (Nat.lt_succ_self _), Nat.ne_of_gt hlS⟩) ys hi hb (items.size - 0) 0 _ (by omega) (Nat.zero_le _) ⟨⟨_, Heap.get?_push_size _ rfl, rfl, rfl⟩, (hl1.push _)⟩ ?_ fun s' hm hS' => ?_
        · exact (setX_fresh (by rw [← hled0]; exact Heap.get?_push_of_some _ hS)).congr (fun _ => rfl) rfl
        · obtain ⟨h', g', d', tk', os'⟩ := s'
          have eg : g' = s.gens := hm.gens
          have ed : d' = s.drawn := hm.drawn
          have eo : os' = s.os := hm.os
          subst eg ed eo
          rw [hlen, List.take_length] at hS'
          show wpAny _ _ _ _ _ _
          refine wpAny_pure ?_
          show wpAny _ _ (ret Value.none) _ _ _
          refine wpAny_pure ⟨rfl, h', tk', rfl, hS', fun b o hb e => ?_⟩
          exact hm.heap b o (by
            rw [hsz]
            simp only [List.mem_cons, List.not_mem_nil, or_false, not_or]
            exact ⟨Nat.ne_of_lt hb, Nat.ne_of_lt (Nat.lt_succ_of_lt hb)⟩) (Heap.get?_push_of_some _ (Heap.get?_push_of_some _ e))
      · cases r₂ with
        | error e => exact hr₂
        | ok fl₂ =>
          cases fl₂ with
          | ret r =>
            obtain ⟨rfl, h', tk, rfl, hS'⟩ := hr₂
            repeat (any_goals (first | assumption | wp_step))
            exact h _ _ hS'
          | _ => exact hr₂.elim
    | _ => exact hr.elim
end
end Sw
/-! part SwG -/
set_option Elab.async false
set_option linter.all false
set_option maxRecDepth 100000
set_option maxHeartbeats 4000000
namespace Sw
open PySem PySem.Spec L2
/-! ## set(list of texts) in the walk -/
def SetT (w : World) (a : Addr) (ys : List Str) : HO := .ext fun h => ∃ P : Program, SetX P w h a (fun z => (ddp ys).any (· == z)) (ddp ys).length
theorem setT_new {P : Program} {w : World} {H : Hp} {h : Heap} {a : Addr} {ys : List Str} (R : SetX P w h a (fun z => (ddp ys).any (· == z)) (ddp ys).length) : ObjOk P w H h a (SetT w a ys) := by
  have ⟨o, _, _, _, ho, _⟩ := R
  refine ⟨⟨P, R⟩, ⟨o, ho⟩, fun h1 h2 p k => ?_⟩
  obtain ⟨P, o, es, ep, t, ho, r⟩ := p
  exact ⟨P, o, es, ep, t, k o ho, r⟩
def rSetOfL (w : World) : List V → Hp → VK → Prop := fun xs H Q => ∃ (l : Addr) (ys : List Str), xs = [.ref l] ∧ H l = some (.lst (ys.map V.str)) ∧ ys.length + 1 < scanBound ∧ ∀ p, H p = none → Q (.ref p) (upd H p (SetT w p ys))
theorem vals_str_at : ∀ {ys : List Str} {us : List Value}, Vals (ys.map V.str) us → ∀ (i : Nat) (v : Value), us[i]? = some v → ∃ y t, ys[i]? = some y ∧ v = .str y t
  | [], _, h, i, v, e => by cases h; simp at e
  | y :: ys, _, h, i, v, e => by
    cases h with
    | cons h1 h2 =>
      cases i with
      | zero =>
        obtain ⟨t, ht⟩ := h1
        have z := Option.some.inj e
        exact ⟨y, t, rfl, by rw [← z, ht]⟩
      | succ i =>
        obtain ⟨y2, t, h3, h4⟩ := vals_str_at h2 i v (by simpa using e)
        exact ⟨y2, t, by simpa using h3, h4⟩
theorem cr_setOfL {X : Cx} (hc : X.calm = true) : CallR X (.type "set") (rSetOfL X.w) := by
  intro pins s σ H xs us Q I r h
  obtain ⟨l, ys, rfl, hH, hb, q⟩ := h
  cases r with
  | cons r1 r2 =>
    cases r2
    cases r1
    obtain ⟨its, n, r, ho, hz⟩ := I.lst hH
    have hl := r.length
    rw [List.length_map] at hl
    refine call_set_strs (ys := ys) (I.ok.hd hc) ⟨_, ho, rfl, n, rfl⟩ (by rw [List.size_toArray]; omega) (fun i v e => vals_str_at r i v (by simpa using e)) (by rw [List.size_toArray]; omega) fun h' tk m => ?_
    exact ⟨.ref _, upd H s.heap.objs.size (SetT X.w s.heap.objs.size ys), I.laid (t' := tk) (fun b u e => m.2 b u (Heap.lt_size e) e) (Nat.le_refl _) (setT_new m.1), rfl, q _ (I.hok.fresh (Nat.le_refl _))⟩
def rLenT (w : World) : List V → Hp → VK → Prop := fun xs H Q => ∃ (a : Addr) (ys : List Str), xs = [.ref a] ∧ H a = some (SetT w a ys) ∧ Q (.int ((ddp ys).length : Nat)) H
theorem cr_lenT {X : Cx} : CallR X (.builtin "len") (rLenT X.w) := by
  intro pins s σ H xs us Q I r h
  obtain ⟨a, ys, rfl, hH, q⟩ := h
  cases r with
  | cons r1 r2 =>
    cases r2
    cases r1
    obtain ⟨P, o, es, ep, t, ho, hex, hd, _, _, hb, hf, hn, _⟩ := (I.hok a _ hH).1
    rw [← hn] at q
    refine call_len_set ho hex hd hf (by unfold scanBound at hb; omega) ?_
    exact ⟨.int _, H, I.kept (t' := s.toks + 1 + 1) fun _ _ z => z, ⟨_, rfl⟩, q⟩
theorem ev_lenSet {K : PySem.W.Frag} {w : World} {τ : Tau} {te : TE} {ys : List (List Nat)} (h : EvS K te τ (.list (ys.map T))) (hz : ys.length < 4000) :
    EvX K (tCB (rLenT w) (tCons (tCB (rSetOfL w) (tCons te tNil)) tNil)) τ (.dt (.int ((ddp (ys.map tx)).length : Nat))) := fun σ B H hs e Q q =>
  h σ B H hs e _ fun v B1 H1 s1 d1 => by
    have d1 : Dd K B1 v (.list (ys.map T)) := d1
    cases d1 with
    | lst g1 a1 =>
      have z := dps_strs a1
      subst z
      refine ⟨_, ys.map tx, rfl, s1.i _ _ g1, by rw [List.length_map]; unfold scanBound; omega, fun p hp => ?_⟩
      have so : Step B1 H1 B1 (upd H1 p (SetT w p (ys.map tx))) := Step.own s1.i hp
      exact ⟨p, ys.map tx, rfl, upd_same, q _ B1 _ (s1.trans so) (.int _)⟩
end Sw
/-! part SwL -/
set_option Elab.async false
set_option linter.all false
set_option maxRecDepth 100000
set_option maxHeartbeats 4000000
namespace Sw
open PySem PySem.Spec L2
/-! ## comprehensions with two fors -/
section
variable {K : PySem.W.Frag} {τ : Tau} {vs vs1 : List Nat} {xs : List PyData}
theorem flat_take {yss : List (List PyData)} {i : Nat} {ys : List PyData} (h : yss[i]? = some ys) : (yss.take (i + 1)).flatten = (yss.take i).flatten ++ ys := by
  rw [take_step h, List.flatten_append, List.flatten_singleton]
theorem flat_le : ∀ {yss : List (List PyData)} {i : Nat} {ys : List PyData}, yss[i]? = some ys → (yss.take i).flatten.length + ys.length ≤ yss.flatten.length := by
  intro yss i ys h
  have e : yss.flatten = (yss.take (i + 1)).flatten ++ (yss.drop (i + 1)).flatten := by rw [← List.flatten_append, List.take_append_drop]
  rw [e, List.length_append, flat_take h, List.length_append]
  omega
theorem ev_lc2 {wi wi1 : TI} {g g1 : TG} {te : TE} (yss : List (List PyData)) (hi : IterE K wi τ xs) (hy : yss.length = xs.length) (hz : yss.flatten.length ≤ sizeLine)
    (hs : ∀ (i : Nat) (x : PyData), xs[i]? = some x → ∃ τ2 xs1 ys1, yss[i]? = some ys1 ∧ ys1.length = xs1.length ∧ TgE K g vs x (wipeD τ vs) τ2 ∧ IterE K wi1 τ2 xs1 ∧ ∀ (j : Nat) (x1 y : PyData), xs1[j]? = some x1 → ys1[j]? = some y → ∃ τ3, TgE K g1 vs1 x1 (wipeD τ2 vs1) τ3 ∧ EvS K te τ3 y) :
    EvX K (tLc2 wi g tYes wi1 g1 tYes te vs vs1) τ (.ls yss.flatten) := fun σ B H hsl e Q q => hi σ B H hsl e _ fun J B1 H1 st1 wk Dl hD => by
  have hDB : B1 Dl = none := Same.free st1.i hD
  refine ⟨fun i m H' => m = xs.length - i ∧ i ≤ xs.length ∧ ∃ B' acc, Step B1 H1 B' H' ∧ H' Dl = some (.lst acc) ∧ B' Dl = none ∧ DdAll K B' acc (yss.take i).flatten, ⟨xs.length, by simp, Nat.zero_le _, B1, [], Step.own st1.i hD, upd_same, hDB, .nil⟩, ?_⟩
  rintro i m H' ⟨rfl, hi, B', acc, st', hacc, hB', hdp⟩
  have e1 : Same B1 H' := st'.b.trans st'.i
  by_cases hlt : i < xs.length
  · have hx : xs[i]? = some xs[i] := List.getElem?_eq_getElem hlt
    obtain ⟨τ2, xs1, ys1, hyi, hlen, htg, hit1, hin⟩ := hs i _ hx
    refine .inr ⟨wk.go i H' e1 hlt, fun H2 => ∃ B2 acc2, Step B1 H1 B2 H2 ∧ H2 Dl = some (.lst acc2) ∧ B2 Dl = none ∧ DdAll K B2 acc2 (yss.take (i + 1)).flatten, fun H2 hN => ⟨xs.length - (i + 1), by omega, rfl, hlt, hN⟩, fun v H2 hy => ?_⟩
    obtain ⟨B2, st2, hdx⟩ := wk.yld i H' v H2 _ e1 hx hy B' st'.b st'.i
    have hsl2 : SlD K B2 σ τ := hsl.same (st1.b.trans (st'.b.trans st2.b))
    have hnD : H' Dl ≠ none := by rw [hacc]; exact fun z => nomatch z
    refine htg (wipe σ vs) B2 H2 v _ (hsl2.wipe vs) st2.i hdx fun σ3 hs3 hw3 => ⟨by rw [hw3, wipe_wipe], ?_⟩
    have hB2 : B2 Dl = none := st2.f Dl hnD hB'
    have hD2 : H2 Dl = some (.lst acc) := st2.h Dl _ hacc
    show wi1 σ3 H2 _
    refine hit1 σ3 B2 H2 hs3 st2.i _ fun J1 B4 H4 st4 wk1 => ?_
    have hB4 : B4 Dl = none := st4.f Dl (by rw [hD2]; exact fun z => nomatch z) hB2
    have hD4 : H4 Dl = some (.lst acc) := st4.h Dl _ hD2
    have stA := (st'.trans st2).trans st4
    refine ⟨fun j k H' => k = xs1.length - j ∧ j ≤ xs1.length ∧ ∃ B' acc, Step B1 H1 B' H' ∧ Same B4 B' ∧ H' Dl = some (.lst acc) ∧ B' Dl = none ∧ DdAll K B' acc ((yss.take i).flatten ++ ys1.take j), ⟨xs1.length, by simp, Nat.zero_le _, B4, acc, stA, Same.refl _, hD4, hB4, by
      rw [List.take_zero, List.append_nil]; exact dps_same (st2.b.trans st4.b) _ _ hdp⟩, ?_⟩
    rintro j k H5 ⟨rfl, hj, B5, acc5, st5, sb5, hacc5, hB5, hdp5⟩
    have e5 : Same B4 H5 := sb5.trans st5.i
    by_cases hlt1 : j < xs1.length
    · have hx1 : xs1[j]? = some xs1[j] := List.getElem?_eq_getElem hlt1
      have hy1 : ys1[j]? = some (ys1[j]'(by omega)) := List.getElem?_eq_getElem (by omega)
      obtain ⟨τ3, htg1, hev⟩ := hin j _ _ hx1 hy1
      refine .inr ⟨wk1.go j H5 e5 hlt1, fun H' => ∃ B' acc, Step B1 H1 B' H' ∧ Same B4 B' ∧ H' Dl = some (.lst acc) ∧ B' Dl = none ∧ DdAll K B' acc ((yss.take i).flatten ++ ys1.take (j + 1)), fun H' hN => ⟨xs1.length - (j + 1), by omega, rfl, hlt1, hN⟩, fun v1 H6 hy6 => ?_⟩
      obtain ⟨B6, st6, hd6⟩ := wk1.yld j H5 v1 H6 _ e5 hx1 hy6 B5 sb5 st5.i
      have hs6 : SlD K B6 σ3 τ2 := hs3.same (st4.b.trans (sb5.trans st6.b))
      have hB6 : B6 Dl = none := st6.f Dl (by rw [hacc5]; exact fun z => nomatch z) hB5
      have hD6 : H6 Dl = some (.lst acc5) := st6.h Dl _ hacc5
      refine htg1 (wipe σ3 vs1) B6 H6 v1 _ (hs6.wipe vs1) st6.i hd6 fun σ7 hs7 hw7 => ⟨by rw [hw7, wipe_wipe], ?_⟩
      show te σ7 H6 _
      refine hev σ7 B6 H6 hs7 st6.i _ fun w B7 H7 st7 d7 => ?_
      have hB7 : B7 Dl = none := st7.f Dl (by rw [hD6]; exact fun z => nomatch z) hB6
      have hD7 := st7.h Dl _ hD6
      have stB := (st5.trans st6).trans st7
      refine ⟨acc5, hD7, ?_, B7, acc5 ++ [w], ⟨stB.b, fun a o h => by rw [upd_ne (ne_of_none h hD)]; exact stB.h a o h, fun a o h => by rw [upd_ne (ne_of_none h hB7)]; exact stB.i a o h, stB.f⟩, (sb5.trans st6.b).trans st7.b, upd_same, hB7, ?_⟩
      · have h1 := dps_len hdp5
        rw [List.length_append, List.length_take] at h1
        have h2 := flat_le hyi
        omega
      · rw [take_step hy1, ← List.append_assoc]
        exact dps_app (dps_same (st6.b.trans st7.b) _ _ hdp5) (.cons d7 .nil)
    · have ej : j = xs1.length := by omega
      subst ej
      rw [← hlen, List.take_length, ← flat_take hyi] at hdp5
      exact .inl ⟨wk1.stop H5 e5, B5, acc5, st5, hacc5, hB5, hdp5⟩
  · have ei : i = xs.length := by omega
    subst ei
    rw [← hy, List.take_length] at hdp
    exact .inl ⟨wk.stop H' e1, q _ B' H' (st1.trans st') ⟨Dl, _, rfl, Same.free st1.h hD, hacc, hB', acc, rfl, hdp⟩⟩
/-- over lists of things that are data -/
theorem ev_lcM2 {α β : Type} {l : List α} {l2 : List β} {d : α → PyData} {d2 : β → PyData} {wi wi1 : TI} {g g1 : TG} {te : TE} (f : α → β → PyData) (hi : IterE K wi τ (l.map d)) (hz : l.length * l2.length ≤ sizeLine)
    (hs : ∀ a ∈ l, ∃ τ2, TgE K g vs (d a) (wipeD τ vs) τ2 ∧ IterE K wi1 τ2 (l2.map d2) ∧ ∀ b ∈ l2, ∃ τ3, TgE K g1 vs1 (d2 b) (wipeD τ2 vs1) τ3 ∧ EvS K te τ3 (f a b)) :
    EvX K (tLc2 wi g tYes wi1 g1 tYes te vs vs1) τ (.ls (l.map fun a => l2.map (f a)).flatten) := by
  refine ev_lc2 _ hi (by rw [List.length_map, List.length_map]) ?_ fun i x hx => ?_
  · have e : ∀ l : List α, ((l.map fun a => l2.map (f a)).flatten).length = l.length * l2.length := by
      intro l
      induction l with
      | nil => simp
      | cons a l ih => rw [List.map_cons, List.flatten_cons, List.length_append, ih, List.length_map, List.length_cons, Nat.succ_mul]; omega
    rw [e]; exact hz
  · rw [List.getElem?_map] at hx
    cases e : l[i]? with
    | none => rw [e] at hx; cases hx
    | some a =>
      rw [e] at hx
      cases hx
      obtain ⟨τ2, h1, h2, h3⟩ := hs a (List.mem_of_getElem? e)
      refine ⟨τ2, _, l2.map (f a), by rw [List.getElem?_map, e]; rfl, by rw [List.length_map, List.length_map], h1, h2, fun j x1 y hx1 hy => ?_⟩
      rw [List.getElem?_map] at hx1 hy
      cases e2 : l2[j]? with
      | none => rw [e2] at hx1; cases hx1
      | some b =>
        rw [e2] at hx1 hy
        cases hx1
        cases hy
        exact h3 b (List.mem_of_getElem? e2)
end
end Sw
/-! part P9 -/
set_option Elab.async false
set_option linter.all false
set_option maxRecDepth 100000
set_option maxHeartbeats 4000000
namespace Sw
open PySem PySem.Spec L2
local macro_rules | `(tactic| walk_at "sz") => `(tactic| first | assumption | omega | (have hsz := szl; omega) | (have hsz := szl; simp only [List.length_append, List.length_cons, List.length_nil, List.length_take, List.length_drop, List.length_reverse, List.length_map, List.length_range]; omega) | decide)
local macro_rules | `(tactic| walk_at "evF") => `(tactic| fail)
local macro_rules | `(tactic| walk_at "ev1") => `(tactic| first
  | ((with_reducible apply ev_var); exact rfl) | with_reducible exact ev_int | with_reducible exact ev_none | with_reducible exact ev_bool | with_reducible exact ev_str
  | with_reducible exact ea_nil | with_reducible apply ea_cons | with_reducible exact eo_none | with_reducible apply eo_some
  | with_reducible exact et_yes | with_reducible apply et_B | with_reducible apply et_test | with_reducible apply et_not | with_reducible apply et_and | with_reducible apply et_or
  | (refine fun (_ : (_ : Bool) = true) => ?_) | (refine fun (_ : (_ : Bool) = false) => ?_)
  | walk_at "evF"
  | with_reducible apply ev_isi | with_reducible apply ev_op | with_reducible apply ev_cb | with_reducible apply ev_sl | with_reducible apply ev_un | with_reducible apply ev_notV
  | with_reducible apply ev_tup | with_reducible apply ev_lst | ((with_reducible apply EvX.frz); with_reducible apply ev_lst)
  | with_reducible apply ev_revL | with_reducible apply ev_revT | with_reducible apply ev_chain
  | with_reducible exact od_add_int | with_reducible exact od_sub | with_reducible exact od_lt | with_reducible exact od_le | with_reducible exact od_gt | with_reducible exact od_ge | with_reducible exact od_eq_int | with_reducible exact od_ne_int
  | with_reducible exact od_eqT | with_reducible exact od_neT | with_reducible exact od_ltT | with_reducible exact od_eq_bool | with_reducible exact od_ne_bool | with_reducible exact od_isN | with_reducible exact od_ntN | with_reducible exact od_isB | with_reducible exact od_ntB
  | with_reducible refine od_addT ?_ | ((with_reducible apply od_ix_tup); exact rfl) | ((with_reducible apply od_ix_list); exact rfl)
  | with_reducible exact cd_lenL | with_reducible exact cd_lenU | with_reducible exact cd_lenS | with_reducible refine cd_lenT ?_ | with_reducible refine cd_lenZ ?_ | with_reducible exact cd_max2 | with_reducible exact cd_min2 | with_reducible exact cd_all | with_reducible exact cd_any
  | refine sd_Tn rfl (Int.natCast_add _ _).symm ?_ | refine sd_Tn rfl rfl ?_ | refine sd_TLn rfl ?_ | refine sd_TRn rfl ?_
  | with_reducible refine od_mulT ?_ ?_ ?_ | with_reducible refine OpD.frz (od_mul_list ?_ ?_ ?_)
  | (intro z h; cases h; done) | walk_at "sz")
local macro_rules | `(tactic| walk_at "ev") => `(tactic| repeat' walk_at "ev1")
/-! ## all texts of few signs, in order -/
def kids (t : List Nat) : List (List Nat) := [t ++ [97], t ++ [98], t ++ [99]]
def lv : Nat → List (List Nat)
  | 0 => [[]]
  | n + 1 => (lv n).flatMap kids
def txs : Nat → List (List Nat)
  | 0 => lv 0
  | n + 1 => txs n ++ lv (n + 1)
theorem lv_mem : ∀ {n : Nat} {t : List Nat}, t ∈ lv n ↔ abc t ∧ t.length = n
  | 0, t => by
    show t ∈ [[]] ↔ _
    rw [List.mem_singleton, List.length_eq_zero_iff]
    exact ⟨fun h => ⟨by rw [h]; exact abc_nil, h⟩, fun h => h.2⟩
  | n + 1, t => by
    show t ∈ (lv n).flatMap kids ↔ _
    rw [List.mem_flatMap]
    constructor
    · rintro ⟨u, hu, ht⟩
      have h1 := lv_mem.mp hu
      unfold kids at ht
      simp only [List.mem_cons, List.not_mem_nil, or_false] at ht
      rcases ht with rfl | rfl | rfl
      · exact ⟨abc_app h1.1 (abc_cons (.inl rfl) abc_nil), by rw [List.length_append, h1.2]; rfl⟩
      · exact ⟨abc_app h1.1 (abc_cons (.inr (.inl rfl)) abc_nil), by rw [List.length_append, h1.2]; rfl⟩
      · exact ⟨abc_app h1.1 (abc_cons (.inr (.inr rfl)) abc_nil), by rw [List.length_append, h1.2]; rfl⟩
    · rintro ⟨ha, hl⟩
      rcases last_or t with e | ⟨u, c, e⟩
      · subst e; cases hl
      · subst e
        refine ⟨u, lv_mem.mpr ⟨(abc_l ha).1, by rw [List.length_append, List.length_singleton] at hl; omega⟩, ?_⟩
        unfold kids
        simp only [List.mem_cons, List.not_mem_nil, or_false]
        rcases (abc_l ha).2 with e | e | e <;> subst e <;> simp
theorem txs_mem : ∀ {n : Nat} {t : List Nat}, t ∈ txs n ↔ abc t ∧ t.length ≤ n
  | 0, t => by
    show t ∈ lv 0 ↔ _
    rw [lv_mem, Nat.le_zero]
  | n + 1, t => by
    show t ∈ txs n ++ lv (n + 1) ↔ _
    rw [List.mem_append, txs_mem, lv_mem]
    constructor
    · rintro (h | h)
      · exact ⟨h.1, by omega⟩
      · exact ⟨h.1, by omega⟩
    · rintro ⟨h1, h2⟩
      by_cases z : t.length ≤ n
      · exact .inl ⟨h1, z⟩
      · exact .inr ⟨h1, by omega⟩
theorem lv_len : ∀ n, (lv n).length = 3 ^ n
  | 0 => rfl
  | n + 1 => by
    show ((lv n).flatMap kids).length = _
    rw [fm_len (k := 3) _ (fun x _ => rfl), lv_len n, Nat.pow_succ]
theorem txs_len : ∀ n, (txs n).length ≤ 2 * 3 ^ n
  | 0 => by show 1 ≤ 2; decide
  | n + 1 => by
    show (txs n ++ lv (n + 1)).length ≤ _
    have := txs_len n
    rw [List.length_append, lv_len, Nat.pow_succ]
    omega
/-- shorter comes first -/
theorem rk_short : ∀ (n : Nat) (u v : List Nat), v.length = n → abc u → abc v → u.length < v.length → rk u < rk v := by
  intro n
  induction n with
  | zero => intro u v h1 _ _ h2; omega
  | succ n ih =>
    intro u v h1 hu hv h2
    rcases last_or v with h | ⟨M, d, h⟩
    · subst h; cases h1
    · subst h
      have hd := (abc_l hv).2
      rw [List.length_append, List.length_singleton] at h1 h2
      rw [rk_app]
      by_cases z : u.length = M.length
      · have := rk_same M.length u M z rfl hu (abc_l hv).1
        omega
      · have := ih u M (by omega) hu (abc_l hv).1 (by omega)
        omega
theorem lv_sorted : ∀ n, (lv n).Pairwise fun a b => rk a < rk b
  | 0 => by show [[]].Pairwise _; simp
  | n + 1 => by
    show ((lv n).flatMap kids).Pairwise _
    have aux : ∀ l : List (List Nat), l.Pairwise (fun a b => rk a < rk b) → (l.flatMap kids).Pairwise fun a b => rk a < rk b := by
      intro l
      induction l with
      | nil => intro _; simp
      | cons t l ih =>
        intro h
        rw [List.pairwise_cons] at h
        rw [List.flatMap_cons, List.pairwise_append]
        refine ⟨?_, ih h.2, ?_⟩
        · unfold kids
          simp [rk_app]
        · intro a ha b hb
          obtain ⟨u, hu, hb⟩ := List.mem_flatMap.mp hb
          have h1 := h.1 u hu
          unfold kids at ha hb
          simp only [List.mem_cons, List.not_mem_nil, or_false] at ha hb
          rcases ha with rfl | rfl | rfl <;> rcases hb with rfl | rfl | rfl <;> rw [rk_app, rk_app] <;> omega
    exact aux _ (lv_sorted n)
theorem txs_sorted : ∀ n, (txs n).Pairwise fun a b => rk a < rk b
  | 0 => lv_sorted 0
  | n + 1 => by
    show (txs n ++ lv (n + 1)).Pairwise _
    rw [List.pairwise_append]
    refine ⟨txs_sorted n, lv_sorted _, fun a ha b hb => ?_⟩
    have h1 := txs_mem.mp ha
    have h2 := lv_mem.mp hb
    exact rk_short _ a b rfl h1.1 h2.1 (by omega)
/-- the first of the few texts that are good is the first of all -/
theorem first_txs {good : List Nat → Prop} [DecidablePred good] {n : Nat} {t : List Nat} {r : List (List Nat)} (h : (txs n).filter (fun t => decide (good t)) = t :: r) : IsFirst good (some t) := by
  have ht : t ∈ (txs n).filter (fun t => decide (good t)) := by rw [h]; exact List.mem_cons_self
  obtain ⟨h1, h2⟩ := List.mem_filter.mp ht
  have h1' := txs_mem.mp h1
  refine ⟨h1'.1, of_decide_eq_true h2, fun v hv hlt hg => ?_⟩
  have hvl : v.length ≤ n := by
    rcases Nat.lt_or_ge t.length v.length with z | z
    · have := rk_short _ t v rfl h1'.1 hv z
      omega
    · omega
  have hvf : v ∈ (txs n).filter (fun t => decide (good t)) := List.mem_filter.mpr ⟨txs_mem.mpr ⟨hv, hvl⟩, decide_eq_true hg⟩
  have hs := (txs_sorted n).filter (fun t => decide (good t))
  rw [h] at hvf hs
  rw [List.pairwise_cons] at hs
  rcases List.mem_cons.mp hvf with e | e
  · subst e; omega
  · have := hs.1 v e; omega
theorem none_txs {good : List Nat → Prop} [DecidablePred good] {n : Nat} {t : List Nat} (h : (txs n).filter (fun t => decide (good t)) = []) (ht : abc t) (hg : good t) : n < t.length := by
  rcases Nat.lt_or_ge n t.length with z | z
  · exact z
  · have hm : t ∈ (txs n).filter (fun t => decide (good t)) := List.mem_filter.mpr ⟨txs_mem.mpr ⟨ht, z⟩, decide_eq_true hg⟩
    rw [h] at hm
    cases hm
theorem st_more {S : Type} {st : List Nat → S} (hd : ∀ u v c, st u = st v → st (u ++ [c]) = st (v ++ [c])) : ∀ (w u v : List Nat), st u = st v → st (u ++ w) = st (v ++ w)
  | [], u, v, h => by rw [List.append_nil, List.append_nil]; exact h
  | c :: w, u, v, h => by
    have := st_more hd w (u ++ [c]) (v ++ [c]) (hd u v c h)
    rw [List.append_assoc, List.append_assoc] at this
    exact this
def prefs (t : List Nat) : List (List Nat) := (List.range t.length).map fun i => t.take i
/-- the beginnings of a first text are not good, and their states differ -/
theorem first_prefs {S : Type} {st : List Nat → S} {G : S → Prop} (hd : ∀ u v c, st u = st v → st (u ++ [c]) = st (v ++ [c])) {t : List Nat} (h : IsFirst (fun t => G (st t)) (some t)) : ((prefs t).map st).Nodup ∧ ∀ u ∈ prefs t, ¬ G (st u) := by
  obtain ⟨ha, hg, hf⟩ := h
  constructor
  · unfold prefs
    rw [List.Nodup, List.pairwise_map, List.pairwise_map]
    refine List.pairwise_lt_range.imp_of_mem fun {i j} hi hj hij e => ?_
    have hj := List.mem_range.mp hj
    have e2 : st (t.take i ++ t.drop j) = st t := by
      have := st_more hd (t.drop j) (t.take i) (t.take j) e
      rw [List.take_append_drop] at this
      exact this
    have hlen : (t.take i ++ t.drop j).length < t.length := by rw [List.length_append, List.length_take, List.length_drop]; omega
    have hab : abc (t.take i ++ t.drop j) := abc_app (abc_take _ ha) (abc_drop _ ha)
    exact hf _ hab (rk_short _ _ _ rfl hab ha hlen) (show G (st (t.take i ++ t.drop j)) by rw [e2]; exact hg)
  · intro u hu
    obtain ⟨i, hi, rfl⟩ := List.mem_map.mp hu
    have hi := List.mem_range.mp hi
    exact hf _ (abc_take _ ha) (rk_short _ _ _ rfl (abc_take _ ha) ha (by rw [List.length_take]; omega))
theorem prefs_len (t : List Nat) : (prefs t).length = t.length := by unfold prefs; rw [List.length_map, List.length_range]
theorem rem_len {old new t : List Nat} (hr : Rp old new) (h : IsFirst (fun t => gdR old (stR old new t)) (some t)) : t.length ≤ 20 := by
  have h1 := first_prefs (fun u v c => stR_nd) h
  have h2 := N_len hr.o1 hr.o4 h1.1
  rw [prefs_len] at h2
  exact h2
theorem part_len {one oth : List RP} (h1 : RpS one) (h2 : RpS oth) {t : List Nat} (h : IsFirst (fun t => gdP one oth (stP one oth t)) (some t)) : t.length ≤ 4096 := by
  have h3 := first_prefs (fun u v c => stP_nd) h
  have h4 := A_len h1 h2 h3.1 h3.2
  rw [prefs_len] at h4
  exact h4
def F_law_texts (ds : List PyData) (sd : SD) : Prop := ∃ n : Nat, ds = [.int n] ∧ n ≤ 8 ∧ sd = .ls ((txs n).map T)
theorem len_law_texts : ∀ ds sd, F_law_texts ds sd → ds.length = 1 := by rintro _ _ ⟨_, rfl, _⟩; rfl
def t_law_texts (K : PySem.W.Frag) (W : WX) : TS :=
  (tSeq (tPar 1 2 (tCons (tLst (tCons (tC (.str (tx []))) tNil)) (tCons (tLst (tCons (tC (.str (tx []))) tNil)) tNil)))
    (tSeq (tFor (iRng1 (tCons (tVar 0) tNil)) (gName 3) (tSeq (tAsg (tLst tNil) (gName 4))
    (tSeq (tFor (iList K (tVar 2)) (gName 5) (tDrop (tBM K "list" rExtend (tVar 4) (tCons (tLc (iStr (tC (.str (tx [97, 98, 99])))) (gName 6) tYes (tOp (rAddU K) (tVar 5) (tVar 6)) [6]) tNil))))
    (tSeq (tAsg (tVar 4) (gName 2))
    (tDrop (tBM K "list" rExtend (tVar 1) (tCons (tVar 2) tNil)))))))
    (tRet (tVar 1))))
section
variable {K : PySem.W.Frag} {W : WX} {w : World} {ds : List PyData} {sd : SD} {τ : Tau} {ta tb tc : TE} {E : St → XK}
theorem pow3_8 {n : Nat} (h : n ≤ 8) : 3 ^ n ≤ 6561 := by
  have := Nat.pow_le_pow_right (show 0 < 3 by decide) h
  exact this
theorem ws_law_texts (h : F_law_texts ds sd) : WS K (t_law_texts K W) (startD 7 ds) (retE W sd) := by
  obtain ⟨n, rfl, hn, rfl⟩ := h
  have hp := pow3_8 hn
  show WS K (t_law_texts K W) [.dt (.int n), .no, .no, .no, .no, .no, .no] _
  unfold t_law_texts
  refine ws_seq (ws_par (s1 := .ls [T []]) (s2 := .ls [T []]) (ev_lst (ea_cons ev_str ea_nil) (by show 1 ≤ sizeLine; decide)) (ev_lst (ea_cons ev_str ea_nil) (by show 1 ≤ sizeLine; decide)) ?_)
  refine ws_frz 2 rfl ?_
  refine ws_seq (ws_forN (in_range1 (n := (n : Int)) (ea_cons (ev_var rfl) ea_nil) (by omega) (by omega)) (fun i τ => ∃ x3 x4 x5 x6, τ = [.dt (.int n), .ls ((txs i).map T), .dt (.list ((lv i).map T)), x3, x4, x5, x6]) ⟨_, _, _, _, rfl⟩ ?_ ?_)
  · rintro i x τ hx ⟨x3, x4, x5, x6, rfl⟩
    obtain ⟨hi, rfl⟩ := rng_get hx
    rw [Int.toNat_natCast] at hi
    have hl1 := lv_len i
    have hl2 := lv_len (i + 1)
    have hl3 := txs_len i
    have hp1 := pow3_8 (show i ≤ 8 by omega)
    have hp2 := pow3_8 (show i + 1 ≤ 8 by omega)
    refine ⟨_, tg_name, ?_⟩
    refine ws_seq (ws_set (ev_lst ea_nil (Nat.zero_le _)) ?_)
    refine ws_seq (ws_for (ie_list (ev_var rfl)) (fun j τ => ∃ x3 x5 x6, τ = [.dt (.int n), .ls ((txs i).map T), .dt (.list ((lv i).map T)), x3, .ls ((((lv i).take j).flatMap kids).map T), x5, x6]) ⟨_, _, _, rfl⟩ ?_ ?_)
    · rintro j x τ hx ⟨y3, y5, y6, rfl⟩
      obtain ⟨t, ht, rfl⟩ := map_get hx
      have htm := lv_mem.mp (List.mem_of_getElem? ht)
      have hjl := (List.getElem?_eq_some_iff.mp ht).1
      have hkl : ((((lv i).take j).flatMap kids).map T).length ≤ 3 * 6561 := by
        rw [List.length_map, fm_len (k := 3) _ (fun x _ => rfl), List.length_take]
        omega
      refine ⟨_, tg_name, ?_⟩
      refine ws_extend (es := (kids t).map T) (i := 4) rfl (EvX.frz (ev_isL (ev_lcM (l := [97, 98, 99]) (d := fun c => T [c]) (fun c => T (t ++ [c])) (in_str ev_str).e (by show 3 ≤ sizeLine; decide) fun c _ => ⟨_, te_name (by decide), ev_op (ev_var rfl) (ev_var rfl) (od_addT (by have := szl; show t.length + 1 ≤ sizeLine; omega))⟩) rfl)) (by have := szl; show _ + 3 ≤ sizeLine; omega) ⟨y3, .dt (T t), y6, ?_⟩
      have e : (lv i).take (j + 1) = (lv i).take j ++ [t] := by rw [List.take_succ, ht]; rfl
      rw [e, List.flatMap_append, List.map_append]
      rfl
    · rintro τ ⟨y3, y5, y6, rfl⟩
      rw [List.length_map, List.take_length]
      refine ws_frz 4 rfl (ws_seq (ws_set (ev_var rfl) ?_))
      refine ws_extend (es := (lv (i + 1)).map T) (i := 1) rfl (ev_var rfl) (by have := szl; rw [List.length_map, List.length_map]; omega) ⟨y3, .dt (.list ((lv (i + 1)).map T)), y5, y6, ?_⟩
      show _ = [SD.dt (.int n), .ls ((txs i ++ lv (i + 1)).map T), .dt (.list ((lv (i + 1)).map T)), y3, .dt (.list ((lv (i + 1)).map T)), y5, y6]
      rw [List.map_append]
      rfl
  · rintro τ ⟨x3, x4, x5, x6, rfl⟩
    rw [rng_len, Int.toNat_natCast]
    exact ws_retV (i := 1) rfl (fun z => nomatch z) rfl
theorem e_law_texts {n : Nat} (ha : EvS K ta τ (.int n)) (hn : n ≤ 8) : EvX K (tCallS (spD K F_law_texts) E (tCons ta tNil)) τ (.ls ((txs n).map T)) := ev_call (ea_cons ha ea_nil) ⟨n, rfl, hn, rfl⟩
end
end Sw
/-! part P16 -/
set_option Elab.async false
set_option linter.all false
set_option maxRecDepth 100000
set_option maxHeartbeats 4000000
namespace Sw
open PySem PySem.Spec L2
local macro_rules | `(tactic| walk_at "sz") => `(tactic| first | assumption | omega | (have hsz := szl; omega) | (have hsz := szl; simp only [List.length_append, List.length_cons, List.length_nil, List.length_take, List.length_drop, List.length_reverse, List.length_map, List.length_range]; omega) | decide)
local macro_rules | `(tactic| walk_at "evF") => `(tactic| fail)
local macro_rules | `(tactic| walk_at "ev1") => `(tactic| first
  | ((with_reducible apply ev_var); exact rfl) | with_reducible exact ev_int | with_reducible exact ev_none | with_reducible exact ev_bool | with_reducible exact ev_str
  | with_reducible exact ea_nil | with_reducible apply ea_cons | with_reducible exact eo_none | with_reducible apply eo_some
  | with_reducible exact et_yes | with_reducible apply et_B | with_reducible apply et_test | with_reducible apply et_not | with_reducible apply et_and | with_reducible apply et_or
  | (refine fun (_ : (_ : Bool) = true) => ?_) | (refine fun (_ : (_ : Bool) = false) => ?_)
  | walk_at "evF"
  | with_reducible apply ev_isi | with_reducible apply ev_op | with_reducible apply ev_cb | with_reducible apply ev_sl | with_reducible apply ev_un | with_reducible apply ev_notV
  | with_reducible apply ev_tup | with_reducible apply ev_lst | ((with_reducible apply EvX.frz); with_reducible apply ev_lst)
  | with_reducible apply ev_revL | with_reducible apply ev_revT | with_reducible apply ev_chain
  | with_reducible exact od_add_int | with_reducible exact od_sub | with_reducible exact od_lt | with_reducible exact od_le | with_reducible exact od_gt | with_reducible exact od_ge | with_reducible exact od_eq_int | with_reducible exact od_ne_int
  | with_reducible exact od_eqT | with_reducible exact od_neT | with_reducible exact od_ltT | with_reducible exact od_eq_bool | with_reducible exact od_ne_bool | with_reducible exact od_isN | with_reducible exact od_ntN | with_reducible exact od_isB | with_reducible exact od_ntB
  | with_reducible refine od_addT ?_ | ((with_reducible apply od_ix_tup); exact rfl) | ((with_reducible apply od_ix_list); exact rfl)
  | with_reducible exact cd_lenL | with_reducible exact cd_lenU | with_reducible exact cd_lenS | with_reducible refine cd_lenT ?_ | with_reducible refine cd_lenZ ?_ | with_reducible exact cd_max2 | with_reducible exact cd_min2 | with_reducible exact cd_all | with_reducible exact cd_any
  | refine sd_Tn rfl (Int.natCast_add _ _).symm ?_ | refine sd_Tn rfl rfl ?_ | refine sd_TLn rfl ?_ | refine sd_TRn rfl ?_
  | with_reducible refine od_mulT ?_ ?_ ?_ | with_reducible refine OpD.frz (od_mul_list ?_ ?_ ?_)
  | (intro z h; cases h; done) | walk_at "sz")
local macro_rules | `(tactic| walk_at "ev") => `(tactic| repeat' walk_at "ev1")
/-! ## numbers, all texts of a length, the naive functions -/
def isIntD (d : PyData) (lo hi : Int) : Bool := match d with
  | .int i => decide (lo ≤ i) && decide (i ≤ hi)
  | _ => false
def F_is_int (ds : List PyData) (sd : SD) : Prop := ∃ d lo hi, ds = [d, .int lo, .int hi] ∧ okD d = true ∧ sd = .dt (.bool (isIntD d lo hi))
def F_check_number (ds : List PyData) (sd : SD) : Prop := ∃ d lo hi, ds = [d, .int lo, .int hi] ∧ okD d = true ∧ sd = chk (isIntD d lo hi) "InvalidNumber"
def F_all_texts (ds : List PyData) (sd : SD) : Prop := ∃ n : Nat, ds = [.int n] ∧ n ≤ 8 ∧ sd = .ls ((lv n).map T)
def Fr_result_of (n : Nat) (ds : List PyData) (sd : SD) : Prop := ∃ old new text, ds = [rep old new, T text] ∧ Rp old new ∧ text.length < n ∧ text.length ≤ 100 ∧ sd = .dt (T (result old new text))
abbrev F_result_of := Fr_result_of 42
/-- the first of all texts of at most n signs at which the scripts part -/
def nfirst (one oth : List RP) (n : Nat) : Option (List Nat) := (txs n).find? fun t => decide (runS one t ≠ runS oth t)
def F_naive_result (ds : List PyData) (sd : SD) : Prop := (∃ old new text, ds = [rep old new, T text] ∧ Rp old new ∧ abc text ∧ text.length ≤ 40 ∧ sd = .dt (T (result old new text))) ∨
  (∃ d d2, ds = [d, d2] ∧ okD d = true ∧ okD d2 = true ∧ ((isRepD d = false ∧ sd = .ex "InvalidReplacement") ∨ (isRepD d = true ∧ isTextD d2 = false ∧ sd = .ex "InvalidText")))
def F_naive_parting (ds : List PyData) (sd : SD) : Prop := (∃ (one oth : List RP) (n : Nat), ds = [.list (one.map rpD), .list (oth.map rpD), .int n] ∧ RpS one ∧ RpS oth ∧ n ≤ 6 ∧ sd = .dt (optT (nfirst one oth n))) ∨
  (∃ d d2 d3, ds = [d, d2, d3] ∧ okD d = true ∧ okD d2 = true ∧ okD d3 = true ∧ (((isScrD d && isScrD d2) = false ∧ sd = .ex "InvalidScript") ∨ ((isScrD d && isScrD d2) = true ∧ isIntD d3 0 6 = false ∧ sd = .ex "InvalidNumber")))
theorem len_is_int : ∀ ds sd, F_is_int ds sd → ds.length = 3 := by rintro _ _ ⟨_, _, _, rfl, _⟩; rfl
theorem len_check_number : ∀ ds sd, F_check_number ds sd → ds.length = 3 := by rintro _ _ ⟨_, _, _, rfl, _⟩; rfl
theorem len_all_texts : ∀ ds sd, F_all_texts ds sd → ds.length = 1 := by rintro _ _ ⟨_, rfl, _⟩; rfl
theorem len_result_of {n : Nat} : ∀ ds sd, Fr_result_of n ds sd → ds.length = 2 := by rintro _ _ ⟨_, _, _, rfl, _⟩; rfl
theorem no_result_of : ∀ ds sd, ¬ Fr_result_of 0 ds sd := by rintro _ _ ⟨_, _, _, rfl, _, h, _⟩; omega
theorem len_naive_result : ∀ ds sd, F_naive_result ds sd → ds.length = 2 := by rintro _ _ (⟨_, _, _, rfl, _⟩ | ⟨_, _, rfl, _⟩) <;> rfl
theorem len_naive_parting : ∀ ds sd, F_naive_parting ds sd → ds.length = 3 := by rintro _ _ (⟨_, _, _, rfl, _⟩ | ⟨_, _, _, rfl, _⟩) <;> rfl
theorem find_filter {α : Type} {p : α → Bool} : ∀ (l : List α), l.find? p = (l.filter p).head?
  | [] => rfl
  | a :: l => by
    rw [List.find?_cons, List.filter_cons]
    cases h : p a with
    | true => simp
    | false => simpa using find_filter l
theorem nfirst_succ {one oth : List RP} {n : Nat} : nfirst one oth (n + 1) = (nfirst one oth n).or ((lv (n + 1)).find? fun t => decide (runS one t ≠ runS oth t)) := by
  show (txs n ++ lv (n + 1)).find? _ = _
  rw [List.find?_append]
  rfl
def t_is_int (K : PySem.W.Frag) (W : WX) : TS :=
  (tRet (tAndV (tCB (rIsi K) (tCons (tVar 0) (tCons (tC (.ty "int")) tNil))) (tAndV (tNotV (tCB (rIsi K) (tCons (tVar 0) (tCons (tC (.ty "bool")) tNil)))) (tChain rLeU rLeU (tVar 1) (tVar 0) (tVar 2)))))
def t_check_number (K : PySem.W.Frag) (W : WX) : TS :=
  (tIfS (tNot (tB (tCallS (spD K F_is_int) (WE W) (tCons (tVar 0) (tCons (tVar 1) (tCons (tVar 2) tNil)))))) (tRaise K W "InvalidNumber") tNext)
def t_all_texts (K : PySem.W.Frag) (W : WX) : TS :=
  (tSeq (tAsg (tLst (tCons (tC (.str (tx []))) tNil)) (gName 1))
    (tSeq (tFor (iRng1 (tCons (tVar 0) tNil)) (gName 2) (tAsg (tLc2 (iList K (tVar 1)) (gName 3) tYes (iStr (tC (.str (tx [97, 98, 99])))) (gName 4) tYes (tOp (rAddU K) (tVar 3) (tVar 4)) [3, 4] [4]) (gName 1)))
    (tRet (tVar 1))))
def t_result_of (K : PySem.W.Frag) (W : WX) (n : Nat) : TS :=
  (tSeq (tAsg (tVar 0) (gTup K 2 (gCons (gName 2) (gCons (gName 3) gNil))))
    (tSeq (tIfS (tTest (tOp (rEqU K) (tSl (rSlU K) (tVar 1) tNoPart (tPart (tCB (rLenU K) (tCons (tVar 2) tNil)))) (tVar 2))) (tRet (tOp (rAddU K) (tVar 3) (tCallS (spD K (Fr_result_of n)) (WE W) (tCons (tVar 0) (tCons (tSl (rSlU K) (tVar 1) (tPart (tCB (rLenU K) (tCons (tVar 2) tNil))) tNoPart) tNil))))) tNext)
    (tRet (tIf (tTest (tOp (rNeU K) (tVar 1) (tC (.str (tx []))))) (tOp (rAddU K) (tOp (rIx K) (tVar 1) (tC (.int 0))) (tCallS (spD K (Fr_result_of n)) (WE W) (tCons (tVar 0) (tCons (tSl (rSlU K) (tVar 1) (tPart (tC (.int 1))) tNoPart) tNil)))) (tC (.str (tx [])))))))
def t_naive_result (K : PySem.W.Frag) (W : WX) : TS :=
  (tSeq (tDrop (tCallS (spD K F_check_replacement) (WE W) (tCons (tVar 0) tNil)))
    (tSeq (tDrop (tCallS (spD K F_check_text) (WE W) (tCons (tVar 1) tNil)))
    (tRet (tCallS (spD K F_result_of) (WE W) (tCons (tVar 0) (tCons (tVar 1) tNil))))))
def t_naive_parting (K : PySem.W.Frag) (W : WX) : TS :=
  (tSeq (tDrop (tCallS (spD K F_check_two) (WE W) (tCons (tVar 0) (tCons (tVar 1) tNil))))
    (tSeq (tDrop (tCallS (spD K F_check_number) (WE W) (tCons (tVar 2) (tCons (tC (.int 0)) (tCons (tC (.int 6)) tNil)))))
    (tSeq (tFor (iRng1 (tCons (tOp (rAddU K) (tVar 2) (tC (.int 1))) tNil)) (gName 3) (tSeq (tAsg (tLc (iList K (tCallS (spD K F_all_texts) (WE W) (tCons (tVar 3) tNil))) (gName 5) (tTest (tOp (rNeU K) (tCallS (spD K F_find_run) (WE W0) (tCons (tVar 0) (tCons (tVar 5) tNil))) (tCallS (spD K F_find_run) (WE W0) (tCons (tVar 1) (tCons (tVar 5) tNil))))) (tVar 5) [5]) (gName 4))
    (tIfS (tTest (tOp (rNeU K) (tVar 4) (tLst tNil))) (tRet (tOp (rIx K) (tVar 4) (tC (.int 0)))) tNext)))
    (tRet (tC .non)))))
section
variable {K : PySem.W.Frag} {W : WX} {w : World} {ds : List PyData} {sd : SD} {τ : Tau} {ta tb tc : TE} {E : St → XK}
theorem sh_txl {F : List (List Nat)} (h : ∀ t ∈ F, abc t) : Sh 2 (.list (F.map T)) := sh_list fun d hd => by
  obtain ⟨t, ht, rfl⟩ := List.mem_map.mp hd
  exact sh_T (h t ht)
theorem at0 {α : Type} {a : α} {l : List α} : atI (a :: l) 0 = some a := by
  unfold atI ixN
  rw [if_pos (by decide), if_pos (by rw [List.length_cons]; omega)]; rfl
theorem et_neNil {F : List (List Nat)} {te : TE} (h : EvS K te τ (.list (F.map T))) (hab : ∀ t ∈ F, abc t) : EvT K (tTest (tOp (rNeU K) te (tLst tNil))) τ (!F.isEmpty) :=
  et_test (ev_is (ev_op h (EvX.frz (ev_lst ea_nil (Nat.zero_le _))) (od_neD ((sh_txl hab).ok (by decide)) ((sh_list (n := 1) (ds := []) fun d hd => by cases hd).ok (by decide)))) (by cases F <;> rfl))
theorem ws_is_int (h : F_is_int ds sd) : WS K (t_is_int K W) (startD 3 ds) (retE W sd) := by
  obtain ⟨d, lo, hi, rfl, hok, rfl⟩ := h
  show WS K (t_is_int K W) [.dt d, .dt (.int lo), .dt (.int hi)] _
  unfold t_is_int
  have hnd := okD_nd hok
  have h1 : EvX K (tCB (rIsi K) (tCons (tVar 0) (tCons (tC (.ty "int")) tNil))) (dv [.dt d, .dt (.int lo), .dt (.int hi)]) _ := ev_isi (ev_var rfl) (by decide) hnd
  have h2 : EvX K (tCB (rIsi K) (tCons (tVar 0) (tCons (tC (.ty "bool")) tNil))) (dv [.dt d, .dt (.int lo), .dt (.int hi)]) _ := ev_isi (ev_var rfl) (by decide) hnd
  cases d with
  | int i =>
    refine ws_ret (ev_andV h1 fun _ => ev_andV (ev_notV h2) fun _ => ev_chain (a := decide (lo ≤ i)) (b := decide (i ≤ hi)) (ev_var rfl) (ev_var rfl) od_le (fun _ => ev_var rfl) (fun _ => od_le)) ?_
    rfl
  | bool b => exact ws_ret (ev_andV h1 fun _ => ev_andV (b := false) (ev_notV h2) fun z => by cases z) rfl
  | dict z => exact absurd rfl (hnd z)
  | _ => exact ws_ret (ev_andV (b := false) h1 fun z => by cases z) rfl
theorem e_is_int {d : PyData} {lo hi : Int} (ha : EvS K ta τ d) (hb : EvS K tb τ (.int lo)) (hc : EvS K tc τ (.int hi)) (hok : okD d = true) : EvX K (tCallS (spD K F_is_int) E (tCons ta (tCons tb (tCons tc tNil)))) τ (.dt (.bool (isIntD d lo hi))) := ev_call (ea_cons ha (ea_cons hb (ea_cons hc ea_nil))) ⟨d, lo, hi, rfl, hok, rfl⟩
theorem ws_check_number (h : F_check_number ds sd) : WS K (t_check_number K W) (startD 3 ds) (retE W sd) := by
  obtain ⟨d, lo, hi, rfl, hok, rfl⟩ := h
  refine ws_if (et_not (et_B (e_is_int (ev_var rfl) (ev_var rfl) (ev_var rfl) hok))) (fun z => ws_raise rfl ?_) fun z => ws_next ?_
  · show chk _ _ = _
    rw [show isIntD d lo hi = false by simpa using z]; rfl
  · show chk _ _ = _
    rw [show isIntD d lo hi = true by simpa using z]; rfl
theorem er_check_number {d : PyData} {lo hi : Int} (ha : EvS K ta τ d) (hb : EvS K tb τ (.int lo)) (hc : EvS K tc τ (.int hi)) (hok : okD d = true) (h : isIntD d lo hi = false) : EvR K W (tCallS (spD K F_check_number) (WE W) (tCons ta (tCons tb (tCons tc tNil)))) τ "InvalidNumber" := er_call (ea_cons ha (ea_cons hb (ea_cons hc ea_nil))) ⟨d, lo, hi, rfl, hok, by rw [h]; rfl⟩
theorem e_check_number {d : PyData} {lo hi : Int} (ha : EvS K ta τ d) (hb : EvS K tb τ (.int lo)) (hc : EvS K tc τ (.int hi)) (hok : okD d = true) (h : isIntD d lo hi = true) : EvX K (tCallS (spD K F_check_number) E (tCons ta (tCons tb (tCons tc tNil)))) τ (.dt .none) := ev_call (ea_cons ha (ea_cons hb (ea_cons hc ea_nil))) ⟨d, lo, hi, rfl, hok, by rw [h]; rfl⟩
theorem ws_all_texts (h : F_all_texts ds sd) : WS K (t_all_texts K W) (startD 5 ds) (retE W sd) := by
  obtain ⟨n, rfl, hn, rfl⟩ := h
  show WS K (t_all_texts K W) [.dt (.int n), .no, .no, .no, .no] _
  unfold t_all_texts
  refine ws_seq (ws_set (ev_lst (ea_cons ev_str ea_nil) (by show 1 ≤ sizeLine; decide)) ?_)
  refine ws_seq (ws_forN (in_range1 (n := (n : Int)) (ea_cons (ev_var rfl) ea_nil) (by omega) (by omega)) (fun i τ => ∃ x2 x3 x4, τ = [.dt (.int n), .ls ((lv i).map T), x2, x3, x4]) ⟨_, _, _, rfl⟩ ?_ ?_)
  · rintro i x τ hx ⟨x2, x3, x4, rfl⟩
    obtain ⟨hi, rfl⟩ := rng_get hx
    rw [Int.toNat_natCast] at hi
    have hl := lv_len i
    have hp := pow3_8 (show i ≤ 8 by omega)
    refine ⟨_, tg_name, ?_⟩
    refine ws_frz 1 rfl ?_
    refine ws_set (ev_isL (ev_lcM2 (l := lv i) (l2 := [97, 98, 99]) (d := T) (d2 := fun c => T [c]) (fun t c => T (t ++ [c])) (ie_list (ev_var rfl)) (by have := szl; rw [List.length_cons, List.length_cons, List.length_cons, List.length_nil]; omega) fun t ht => ⟨_, te_name (by decide), (in_str ev_str).e, fun c _ => ⟨_, te_name (by decide), ev_op (ev_var rfl) (ev_var rfl) (od_addT (by
      have := (lv_mem.mp ht).2; have := szl; rw [List.length_singleton]; omega))⟩⟩) ?_) ⟨_, x3, x4, rfl⟩
    show _ = ((lv i).flatMap kids).map T
    rw [List.flatMap_def, List.map_flatten, List.map_map]
    rfl
  · rintro τ ⟨x2, x3, x4, rfl⟩
    rw [rng_len, Int.toNat_natCast]
    exact ws_retV (i := 1) rfl (fun z => nomatch z) rfl
theorem e_all_texts {n : Nat} (ha : EvS K ta τ (.int n)) (hn : n ≤ 8) : EvX K (tCallS (spD K F_all_texts) E (tCons ta tNil)) τ (.ls ((lv n).map T)) := ev_call (ea_cons ha ea_nil) ⟨n, rfl, hn, rfl⟩
theorem ws_result_of {n : Nat} (h : Fr_result_of (n + 1) ds sd) : WS K (t_result_of K W n) (startD 4 ds) (retE W sd) := by
  obtain ⟨old, new, text, rfl, hr, hl, hf, rfl⟩ := h
  have ho1 := hr.o1
  have ho4 := hr.o4
  have hn4 := hr.n4
  have hne := hr.ne
  have hz := szl
  show WS K (t_result_of K W n) [.dt (rep old new), .dt (T text), .no, .no] _
  unfold t_result_of
  have hrec : ∀ {k : Nat} {te : TE} {τ : Tau}, 1 ≤ k → text.length ≠ 0 → EvS K te τ (T (text.drop k)) → ∀ {ta : TE}, EvS K ta τ (rep old new) → EvX K (tCallS (spD K (Fr_result_of n)) (WE W) (tCons ta (tCons te tNil))) τ (.dt (T (result old new (text.drop k)))) := fun {k te τ} hk h0 he {ta} ha =>
    ev_call (ea_cons ha (ea_cons he ea_nil)) ⟨old, new, _, rfl, hr, by rw [List.length_drop]; omega, by rw [List.length_drop]; omega, rfl⟩
  refine ws_seq (ws_asg (ev_var rfl) (tg_tup (tgs_cons tg_name (tgs_cons tg_name tgs_nil)) rfl) ?_)
  have hlen : EvX K (tCB (rLenU K) (tCons (tVar 2) tNil)) (dv [.dt (rep old new), .dt (T text), .dt (T old), .dt (T new)]) (.dt (.int old.length)) := ev_cb (ea_cons (ev_var rfl) ea_nil) (cd_lenT (by omega))
  refine ws_seq (ws_if (b := decide (text.take old.length = old)) (et_test (ev_op (ev_sl (ev_var rfl) eo_none (eo_some hlen) (sd_TR (by omega))) (ev_var rfl) od_eqT)) (fun hb => ?_) (fun hb => ws_next ?_))
  · have hb := of_decide_eq_true hb
    have hp : old <+: text := by
      have := (pre_iff old text 0).mp (by rw [List.drop_zero]; exact hb)
      rwa [List.drop_zero] at this
    have h0 : text.length ≠ 0 := by have := hp.length_le; omega
    refine ws_ret (ev_op (ev_var rfl) (hrec ho1 h0 (ev_sl (ev_var rfl) (eo_some hlen) eo_none (sd_TL (by omega))) (ev_var rfl)) (od_addT ?_)) ?_
    · have := rsl_len old new 0 (text.drop old.length)
      rw [List.length_drop] at this
      have h5 : (text.length - old.length) * (new.length + 1) ≤ 100 * 5 := Nat.mul_le_mul (by omega) (by omega)
      show new.length + (rsl old new 0 (text.drop old.length)).length ≤ _
      omega
    · show _ = SD.dt (T (result old new text))
      rw [show result old new text = _ from rsl_yes hne hp]
  · have hb := of_decide_eq_false hb
    have hnp : ¬ old <+: text := fun z => hb (by
      have := (pre_iff old text 0).mpr (by rw [List.drop_zero]; exact z)
      rwa [List.drop_zero] at this)
    refine ws_ret (ev_if (b := !decide (text = [])) (et_test (ev_op (ev_var rfl) ev_str od_neT)) (fun hc => ?_) (fun hc => ?_)) rfl
    · cases text with
      | nil => simp at hc
      | cons c r =>
        have e : result old new (c :: r) = [c] ++ result old new r := rsl_no hnp
        rw [e]
        refine ev_op (ev_op (ev_var rfl) ev_int (od_ixT (by omega) at0)) (hrec (k := 1) (Nat.le_refl _) (by rw [List.length_cons]; omega) (ev_sl (ev_var rfl) (eo_some ev_int) eo_none (sd_TLn (a := 1) rfl (by omega))) (ev_var rfl)) (od_addT ?_)
        have := rsl_len old new 0 r
        rw [List.length_cons] at hf
        have h5 : r.length * (new.length + 1) ≤ 100 * 5 := Nat.mul_le_mul (by omega) (by omega)
        show 1 + (rsl old new 0 r).length ≤ _
        omega
    · cases text with
      | nil =>
        have e : result old new [] = [] := rsl_short (by rw [List.length_nil]; omega)
        rw [e]
        exact ev_str
      | cons c r => simp at hc
theorem e_result_of {old new text : List Nat} (ha : EvS K ta τ (rep old new)) (hb : EvS K tb τ (T text)) (hr : Rp old new) (hl : text.length ≤ 40) : EvX K (tCallS (spD K F_result_of) E (tCons ta (tCons tb tNil))) τ (.dt (T (result old new text))) := ev_call (ea_cons ha (ea_cons hb ea_nil)) ⟨old, new, text, rfl, hr, by omega, by omega, rfl⟩
theorem e_check_repD {d : PyData} (ha : EvS K ta τ d) (hok : okD d = true) (h : isRepD d = true) : EvX K (tCallS (spD K F_check_replacement) E (tCons ta tNil)) τ (.dt .none) := ev_call (ea_cons ha ea_nil) ⟨d, rfl, hok, by rw [h]; rfl⟩
theorem ws_naive_result (h : F_naive_result ds sd) : WS K (t_naive_result K W) (startD 2 ds) (retE W sd) := by
  rcases h with ⟨old, new, text, rfl, hr, ha, hl, rfl⟩ | ⟨d, d2, rfl, h1, h2, ⟨e1, rfl⟩ | ⟨e1, e2, rfl⟩⟩
  · exact ws_seq (ws_drop (e_check_replacement (ev_var rfl) hr) (ws_seq (ws_drop (e_check_text (ev_var rfl) ha hl) (ws_ret (e_result_of (ev_var rfl) (ev_var rfl) hr hl) rfl))))
  · exact ws_seq (ws_dropR rfl (er_check_replacement (ev_var rfl) h1 e1) rfl)
  · exact ws_seq (ws_drop (e_check_repD (ev_var rfl) h1 e1) (ws_seq (ws_dropR rfl (er_check_text (ev_var rfl) h2 e2) rfl)))
theorem e_naive_result {old new text : List Nat} (ha : EvS K ta τ (rep old new)) (hb : EvS K tb τ (T text)) (hr : Rp old new) (h : abc text) (hl : text.length ≤ 40) : EvX K (tCallS (spD K F_naive_result) E (tCons ta (tCons tb tNil))) τ (.dt (T (result old new text))) := ev_call (ea_cons ha (ea_cons hb ea_nil)) (.inl ⟨old, new, text, rfl, hr, h, hl, rfl⟩)
theorem e_check_twoD {d d2 : PyData} (ha : EvS K ta τ d) (hb : EvS K tb τ d2) (h1 : okD d = true) (h2 : okD d2 = true) (h : (isScrD d && isScrD d2) = true) : EvX K (tCallS (spD K F_check_two) E (tCons ta (tCons tb tNil))) τ (.dt .none) := ev_call (ea_cons ha (ea_cons hb ea_nil)) ⟨_, _, rfl, h1, h2, by rw [h]; rfl⟩
theorem ws_naive_parting (h : F_naive_parting ds sd) : WS K (t_naive_parting K W) (startD 6 ds) (retE W sd) := by
  rcases h with ⟨one, oth, n, rfl, h1, h2, hn, rfl⟩ | ⟨d, d2, d3, rfl, g1, g2, g3, ⟨e1, rfl⟩ | ⟨e1, e2, rfl⟩⟩
  · show WS K (t_naive_parting K W) [.dt (.list (one.map rpD)), .dt (.list (oth.map rpD)), .dt (.int n), .no, .no, .no] _
    unfold t_naive_parting
    refine ws_seq (ws_drop (e_check_two (ev_var rfl) (ev_var rfl) h1 h2) (ws_seq (ws_drop (e_check_number (ev_var rfl) ev_int ev_int rfl (by
      show (decide ((0 : Int) ≤ n) && decide ((n : Int) ≤ 6)) = true
      rw [decide_eq_true (by omega), decide_eq_true (by omega)]; rfl)) ?_)))
    refine ws_seq (ws_forN (in_range1 (n := (n : Int) + 1) (ea_cons (ev_op (ev_var rfl) ev_int od_add_int) ea_nil) (by omega) (by omega)) (fun i τ => ∃ x3 x4 x5, τ = [.dt (.list (one.map rpD)), .dt (.list (oth.map rpD)), .dt (.int n), x3, x4, x5] ∧ ∀ j, j < i → (lv j).find? (fun t => decide (runS one t ≠ runS oth t)) = none) ⟨_, _, _, rfl, fun j hj => by omega⟩ ?_ ?_)
    · rintro i x τ hx ⟨x3, x4, x5, rfl, hI⟩
      obtain ⟨hi, rfl⟩ := rng_get hx
      have hi : i < n + 1 := by omega
      have hlv := lv_len i
      have hp := pow3_8 (show i ≤ 8 by omega)
      refine ⟨_, tg_name, ?_⟩
      refine ws_seq (ws_set (sd := .ls (((lv i).filter (fun t => decide (runS one t ≠ runS oth t))).map T)) (ev_lcF (l := lv i) (d := T) (fun t => decide (runS one t ≠ runS oth t)) T (ie_list (EvX.frz (e_all_texts (n := i) (ev_is (ev_var rfl) (by congr 1; omega)) (by omega)))) (by have := szl; omega) fun t ht => ⟨_, te_name (by decide), et_test (ev_is (ev_op (e_find_run (ev_var rfl) (ev_var rfl) h1 (by have := (lv_mem.mp ht).2; omega)) (e_find_run (ev_var rfl) (ev_var rfl) h2 (by have := (lv_mem.mp ht).2; omega)) od_neT) (by congr 1; simp)), fun _ => ev_var rfl⟩) ?_)
      refine ws_frz 4 rfl ?_
      have hff := find_filter (p := fun t => decide (runS one t ≠ runS oth t)) (lv i)
      have hab : ∀ t ∈ (lv i).filter (fun t => decide (runS one t ≠ runS oth t)), abc t := fun t ht => (lv_mem.mp (List.mem_filter.mp ht).1).1
      generalize (lv i).filter (fun t => decide (runS one t ≠ runS oth t)) = F at hff hab ⊢
      refine ws_if (et_neNil (ev_var rfl) hab) (fun hb => ?_) (fun hb => ws_next ⟨_, _, _, rfl, fun j hj => ?_⟩)
      · cases F with
        | nil => cases hb
        | cons t r =>
          refine ws_ret (ev_op (ev_var rfl) ev_int (od_ix_list (d := T t) at0)) ?_
          show _ = SD.dt (optT (nfirst one oth n))
          have e : ∀ m, i ≤ m → nfirst one oth m = some t := by
            intro m hm
            induction m with
            | zero =>
              have e0 : i = 0 := by omega
              subst e0
              exact hff
            | succ m ih =>
              rw [nfirst_succ]
              by_cases hc : i ≤ m
              · rw [ih hc]; rfl
              · have e0 : i = m + 1 := by omega
                subst e0
                have e1 : ∀ k, k ≤ m → nfirst one oth k = none := by
                  intro k hk
                  induction k with
                  | zero => exact hI 0 (by omega)
                  | succ k ihk => rw [nfirst_succ, ihk (by omega), hI (k + 1) (by omega)]; rfl
                rw [e1 m (Nat.le_refl _), hff]
                rfl
          rw [e n (by omega)]
          rfl
      · cases F with
        | cons t r => cases hb
        | nil =>
          by_cases hc : j < i
          · exact hI j hc
          · have e0 : j = i := by omega
            subst e0
            exact hff
    · rintro τ ⟨x3, x4, x5, rfl, hI⟩
      rw [rng_len] at hI
      refine ws_ret ev_none ?_
      show _ = SD.dt (optT (nfirst one oth n))
      have e1 : ∀ k, k ≤ n → nfirst one oth k = none := by
        intro k hk
        induction k with
        | zero => exact hI 0 (by omega)
        | succ k ihk => rw [nfirst_succ, ihk (by omega), hI (k + 1) (by omega)]; rfl
      rw [e1 n (Nat.le_refl _)]
      rfl
  · exact ws_seq (ws_dropR rfl (er_check_two (ev_var rfl) (ev_var rfl) g1 g2 e1) rfl)
  · exact ws_seq (ws_drop (e_check_twoD (ev_var rfl) (ev_var rfl) g1 g2 e1) (ws_seq (ws_dropR rfl (er_check_number (ev_var rfl) ev_int ev_int g3 e2) rfl)))
theorem e_naive_parting {one oth : List RP} {n : Nat} (ha : EvS K ta τ (.list (one.map rpD))) (hb : EvS K tb τ (.list (oth.map rpD))) (hc : EvS K tc τ (.int n)) (h1 : RpS one) (h2 : RpS oth) (hn : n ≤ 6) : EvX K (tCallS (spD K F_naive_parting) E (tCons ta (tCons tb (tCons tc tNil)))) τ (.dt (optT (nfirst one oth n))) := ev_call (ea_cons ha (ea_cons hb (ea_cons hc ea_nil))) (.inl ⟨one, oth, n, rfl, h1, h2, hn, rfl⟩)
end
end Sw
/-! part P18 -/
set_option Elab.async false
set_option linter.all false
set_option maxRecDepth 100000
set_option maxHeartbeats 4000000
namespace Sw
open PySem PySem.Spec L2
local macro_rules | `(tactic| walk_at "sz") => `(tactic| first | assumption | omega | (have hsz := szl; omega) | (have hsz := szl; simp only [List.length_append, List.length_cons, List.length_nil, List.length_take, List.length_drop, List.length_reverse, List.length_map, List.length_range]; omega) | decide)
local macro_rules | `(tactic| walk_at "evF") => `(tactic| fail)
local macro_rules | `(tactic| walk_at "ev1") => `(tactic| first
  | ((with_reducible apply ev_var); exact rfl) | with_reducible exact ev_int | with_reducible exact ev_none | with_reducible exact ev_bool | with_reducible exact ev_str
  | with_reducible exact ea_nil | with_reducible apply ea_cons | with_reducible exact eo_none | with_reducible apply eo_some
  | with_reducible exact et_yes | with_reducible apply et_B | with_reducible apply et_test | with_reducible apply et_not | with_reducible apply et_and | with_reducible apply et_or
  | (refine fun (_ : (_ : Bool) = true) => ?_) | (refine fun (_ : (_ : Bool) = false) => ?_)
  | walk_at "evF"
  | with_reducible apply ev_isi | with_reducible apply ev_op | with_reducible apply ev_cb | with_reducible apply ev_sl | with_reducible apply ev_un | with_reducible apply ev_notV
  | with_reducible apply ev_tup | with_reducible apply ev_lst | ((with_reducible apply EvX.frz); with_reducible apply ev_lst)
  | with_reducible apply ev_revL | with_reducible apply ev_revT | with_reducible apply ev_chain
  | with_reducible exact od_add_int | with_reducible exact od_sub | with_reducible exact od_lt | with_reducible exact od_le | with_reducible exact od_gt | with_reducible exact od_ge | with_reducible exact od_eq_int | with_reducible exact od_ne_int
  | with_reducible exact od_eqT | with_reducible exact od_neT | with_reducible exact od_ltT | with_reducible exact od_eq_bool | with_reducible exact od_ne_bool | with_reducible exact od_isN | with_reducible exact od_ntN | with_reducible exact od_isB | with_reducible exact od_ntB
  | with_reducible refine od_addT ?_ | ((with_reducible apply od_ix_tup); exact rfl) | ((with_reducible apply od_ix_list); exact rfl)
  | with_reducible exact cd_lenL | with_reducible exact cd_lenU | with_reducible exact cd_lenS | with_reducible refine cd_lenT ?_ | with_reducible refine cd_lenZ ?_ | with_reducible exact cd_max2 | with_reducible exact cd_min2 | with_reducible exact cd_all | with_reducible exact cd_any
  | refine sd_Tn rfl (Int.natCast_add _ _).symm ?_ | refine sd_Tn rfl rfl ?_ | refine sd_TLn rfl ?_ | refine sd_TRn rfl ?_
  | with_reducible refine od_mulT ?_ ?_ ?_ | with_reducible refine OpD.frz (od_mul_list ?_ ?_ ?_)
  | (intro z h; cases h; done) | walk_at "sz")
local macro_rules | `(tactic| walk_at "ev") => `(tactic| repeat' walk_at "ev1")
/-! ## together.py: several words at once -/
/-! each text once -/
theorem ddp_mem : ∀ (n : Nat) (ys : List Str), ys.length = n → ∀ y, y ∈ ddp ys ↔ y ∈ ys
  | 0, ys, h, y => by rw [List.length_eq_zero_iff.mp h]; exact Iff.rfl
  | n + 1, ys, h, y => by
    have hne : ys ≠ [] := fun z => by rw [z] at h; cases h
    have e : ys = ys.dropLast ++ [ys.getLast hne] := (List.dropLast_concat_getLast hne).symm
    have ih := ddp_mem n ys.dropLast (by rw [List.length_dropLast]; omega)
    generalize ys.dropLast = r at e ih
    generalize ys.getLast hne = z at e
    subst e
    rw [ddp_snoc]
    unfold PyProof.Rows.step_dedup
    split
    · rename_i hz
      rw [List.any_eq_true] at hz
      obtain ⟨x, hx, he⟩ := hz
      have he : x = z := by simpa using he
      subst he
      rw [ih y, List.mem_append, List.mem_singleton]
      exact ⟨fun k => .inl k, fun k => k.elim id fun k => by rw [k]; exact (ih x).mp hx⟩
    · rw [List.mem_append, ih y, List.mem_append]
theorem ddp_len_snoc (ys : List Str) (y : Str) : (ddp (ys ++ [y])).length = if y ∈ ys then (ddp ys).length else (ddp ys).length + 1 := by
  rw [ddp_snoc, dd_len]
  have h : ((ddp ys).any (· == y) = true) ↔ y ∈ ys := by
    rw [List.any_eq_true, ← ddp_mem _ ys rfl y]
    exact ⟨fun ⟨x, hx, he⟩ => by rw [← (show x = y by simpa using he)]; exact hx, fun k => ⟨y, k, by simp⟩⟩
  by_cases k : y ∈ ys
  · rw [if_pos k, if_pos (h.mpr k)]
  · rw [if_neg k, if_neg (fun z => k (h.mp z))]
theorem ddp_full : ∀ (n : Nat) (ys : List Str), ys.length = n → ((ddp ys).length = ys.length ↔ ys.Nodup)
  | 0, ys, h => by rw [List.length_eq_zero_iff.mp h]; exact ⟨fun _ => List.nodup_nil, fun _ => rfl⟩
  | n + 1, ys, h => by
    have hne : ys ≠ [] := fun z => by rw [z] at h; cases h
    have e : ys = ys.dropLast ++ [ys.getLast hne] := (List.dropLast_concat_getLast hne).symm
    have ih := ddp_full n ys.dropLast (by rw [List.length_dropLast]; omega)
    generalize ys.dropLast = r at e ih
    generalize ys.getLast hne = z at e
    subst e
    have hle := ddp_le _ r rfl
    rw [ddp_len_snoc, List.length_append, List.length_singleton, List.nodup_append]
    by_cases k : z ∈ r
    · rw [if_pos k]
      exact ⟨fun q => by omega, fun ⟨_, _, q⟩ => absurd rfl (q z k z List.mem_cons_self)⟩
    · rw [if_neg k]
      constructor
      · intro q
        refine ⟨ih.mp (by omega), by simp, fun a ha b hb => ?_⟩
        rw [List.mem_singleton.mp hb]
        intro q; rw [q] at ha; exact k ha
      · intro ⟨q, _, _⟩
        rw [ih.mpr q]
/-- all are the same: one text at most; and back -/
theorem ddp_one {z : Str} : ∀ (n : Nat) (ys : List Str), ys.length = n → (∀ y ∈ ys, y = z) → (ddp ys).length ≤ 1
  | 0, ys, h, _ => by rw [List.length_eq_zero_iff.mp h]; exact Nat.zero_le _
  | n + 1, ys, h, ha => by
    have hne : ys ≠ [] := fun z => by rw [z] at h; cases h
    have e : ys = ys.dropLast ++ [ys.getLast hne] := (List.dropLast_concat_getLast hne).symm
    have ih := ddp_one (z := z) n ys.dropLast (by rw [List.length_dropLast]; omega) fun y hy => ha y (List.dropLast_subset ys hy)
    have hl := ha (ys.getLast hne) (List.getLast_mem hne)
    have hr : ∀ y ∈ ys.dropLast, y = z := fun y hy => ha y (List.dropLast_subset ys hy)
    generalize ys.dropLast = r at e ih hr
    generalize ys.getLast hne = x at e hl
    subst e
    rw [ddp_len_snoc]
    split
    · exact ih
    · rename_i k
      cases r with
      | nil => exact Nat.le_refl _
      | cons a r => exact absurd (by rw [hl, hr a List.mem_cons_self]; exact List.mem_cons_self) k
theorem ddp_two {ys : List Str} {a b : Str} (ha : a ∈ ys) (hb : b ∈ ys) (h : a ≠ b) : 1 < (ddp ys).length := by
  have h1 := (ddp_mem _ ys rfl a).mpr ha
  have h2 := (ddp_mem _ ys rfl b).mpr hb
  match ddp ys, h1, h2 with
  | [], h1, _ => cases h1
  | [x], h1, h2 => exact absurd ((List.mem_singleton.mp h1).trans (List.mem_singleton.mp h2).symm) h
  | x :: y :: r, _, _ => rw [List.length_cons, List.length_cons]; omega
theorem tx_nodup : ∀ {ys : List (List Nat)}, (ys.map tx).Nodup ↔ ys.Nodup
  | [] => ⟨fun _ => List.nodup_nil, fun _ => List.nodup_nil⟩
  | y :: ys => by
    rw [List.map_cons, List.nodup_cons, List.nodup_cons, tx_nodup]
    have e : tx y ∈ ys.map tx ↔ y ∈ ys := ⟨fun h => by
      obtain ⟨x, hx, he⟩ := List.mem_map.mp h
      rw [← tx_inj he]; exact hx, fun h => List.mem_map_of_mem h⟩
    rw [e]
/-! choices -/
def oldS : PyData → Str
  | .tuple (.str z :: _) => z
  | _ => tx []
def isChoD (d : PyData) : Bool := match d with
  | .list xs => (decide (1 ≤ (xs.length : Int)) && decide ((xs.length : Int) ≤ 3)) && (xs.all isRepD && decide (((ddp (xs.map oldS)).length : Int) = (xs.length : Int)))
  | _ => false
/-- a choice -/
structure Ch (ch : List RP) : Prop where
  s : RpS ch
  l : 1 ≤ ch.length
  n : (ch.map Prod.fst).Nodup
theorem isStr_invD {d : PyData} {lo hi : Int} (h : isStrD d lo hi = true) : ∃ l, d = T l ∧ lo ≤ (l.length : Int) ∧ (l.length : Int) ≤ hi ∧ abc l := by
  cases d with
  | str z =>
    rw [isStrD_str, Bool.and_eq_true, Bool.and_eq_true, decide_eq_true_eq, decide_eq_true_eq, abc_all] at h
    rw [tx_of z, tx_len] at h
    rw [tx_list] at h
    exact ⟨z.cps.toList, congrArg PyData.str (tx_of z), h.1.1, h.1.2, h.2⟩
  | _ => cases h
theorem isRep_inv {d : PyData} (h : isRepD d = true) : ∃ s : RP, d = rpD s ∧ Rp s.1 s.2 := by
  unfold isRepD at h
  split at h
  · rw [Bool.and_eq_true] at h
    obtain ⟨a, rfl, h1, h2, h3⟩ := isStr_invD h.1
    obtain ⟨b, rfl, h4, h5, h6⟩ := isStr_invD h.2
    exact ⟨(a, b), rfl, by show 1 ≤ a.length; omega, by show a.length ≤ 4; omega, by show b.length ≤ 4; omega, h3, h6⟩
  · cases h
theorem isReps_inv : ∀ {xs : List PyData}, xs.all isRepD = true → ∃ ch : List RP, xs = ch.map rpD ∧ ∀ s ∈ ch, Rp s.1 s.2
  | [], _ => ⟨[], rfl, fun _ h => by cases h⟩
  | d :: xs, h => by
    rw [List.all_cons, Bool.and_eq_true] at h
    obtain ⟨s, rfl, hs⟩ := isRep_inv h.1
    obtain ⟨ch, rfl, hc⟩ := isReps_inv h.2
    exact ⟨s :: ch, rfl, fun x hx => (List.mem_cons.mp hx).elim (fun e => by rw [e]; exact hs) (hc x)⟩
theorem oldS_map (ch : List RP) : (ch.map rpD).map oldS = (ch.map Prod.fst).map tx := by rw [List.map_map, List.map_map]; rfl
theorem reps_all {ch : List RP} (h : ∀ s ∈ ch, Rp s.1 s.2) : (ch.map rpD).all isRepD = true := by
  rw [List.all_eq_true]
  intro d hd
  obtain ⟨s, hs, rfl⟩ := List.mem_map.mp hd
  exact isRep_rep (h s hs)
theorem isCho_ch {ch : List RP} (h : Ch ch) : isChoD (.list (ch.map rpD)) = true := by
  have h1 := h.l
  have h3 := h.s.1
  unfold isChoD
  simp only [List.length_map]
  have e : (ddp ((ch.map rpD).map oldS)).length = ch.length := by
    rw [oldS_map, (ddp_full _ _ rfl).mpr (tx_nodup.mpr h.n), List.length_map, List.length_map]
  rw [e, reps_all h.s.2, decide_eq_true (show (1 : Int) ≤ (ch.length : Int) by omega), decide_eq_true (show (ch.length : Int) ≤ 3 by omega)]
  simp
theorem isCho_inv {d : PyData} (h : isChoD d = true) : ∃ ch : List RP, d = .list (ch.map rpD) ∧ Ch ch := by
  unfold isChoD at h
  split at h
  · rename_i xs
    rw [Bool.and_eq_true, Bool.and_eq_true, Bool.and_eq_true] at h
    obtain ⟨⟨h1, h2⟩, h3, h4⟩ := h
    obtain ⟨ch, rfl, hc⟩ := isReps_inv h3
    have h1 := of_decide_eq_true h1
    have h2 := of_decide_eq_true h2
    have h4 := of_decide_eq_true h4
    rw [List.length_map] at h1 h2 h4
    refine ⟨ch, rfl, ⟨⟨by omega, hc⟩, by omega, ?_⟩⟩
    rw [oldS_map] at h4
    refine tx_nodup.mp ((ddp_full _ _ rfl).mp ?_)
    rw [List.length_map, List.length_map]
    omega
  · cases h
/-- the first step with whose old word a text goes on -/
def hit (ch : List RP) (t : List Nat) : Option RP := ch.find? fun s => s.1.isPrefixOf t
/-- the result at once; k signs are still to be skipped -/
def onc (ch : List RP) : Nat → List Nat → List Nat
  | _, [] => []
  | k + 1, _ :: r => onc ch k r
  | 0, c :: r => match hit ch (c :: r) with
    | some s => s.2 ++ onc ch (s.1.length - 1) r
    | none => c :: onc ch 0 r
theorem onc_nil (ch : List RP) (k : Nat) : onc ch k [] = [] := by cases k <;> rfl
theorem onc_skip (ch : List RP) : ∀ (k : Nat) (r : List Nat), onc ch k r = onc ch 0 (r.drop k)
  | 0, r => by simp
  | k + 1, [] => by simp [onc]
  | k + 1, c :: r => by rw [onc, onc_skip ch k r, List.drop_succ_cons]
theorem hit_mem {ch : List RP} {t : List Nat} {s : RP} (h : hit ch t = some s) : s ∈ ch ∧ s.1 <+: t := by
  unfold hit at h
  exact ⟨List.mem_of_find?_eq_some h, List.isPrefixOf_iff_prefix.mp (by simpa using List.find?_some h)⟩
theorem onc_yes {ch : List RP} {r : List Nat} {s : RP} (h : hit ch r = some s) (hn : s.1 ≠ []) : onc ch 0 r = s.2 ++ onc ch 0 (r.drop s.1.length) := by
  cases r with
  | nil => exact absurd (List.prefix_nil.mp (hit_mem h).2) hn
  | cons c r =>
    have hl : 0 < s.1.length := List.length_pos_iff.mpr hn
    rw [onc, h]
    show s.2 ++ onc ch (s.1.length - 1) r = _
    rw [onc_skip]
    obtain ⟨m, hm⟩ : ∃ m, s.1.length = m + 1 := ⟨s.1.length - 1, by omega⟩
    rw [hm, Nat.add_sub_cancel, List.drop_succ_cons]
theorem onc_no {ch : List RP} {c : Nat} {r : List Nat} (h : hit ch (c :: r) = none) : onc ch 0 (c :: r) = c :: onc ch 0 r := by
  rw [onc, h]
theorem onc_len {ch : List RP} (h : ∀ s ∈ ch, Rp s.1 s.2) : ∀ (k : Nat) (r : List Nat), (onc ch k r).length ≤ r.length * 5
  | k, [] => by rw [onc_nil]; simp
  | k + 1, c :: r => by
    rw [onc]
    have := onc_len h k r
    rw [List.length_cons]
    omega
  | 0, c :: r => by
    cases hh : hit ch (c :: r) with
    | none =>
      rw [onc_no hh, List.length_cons, List.length_cons]
      have := onc_len h 0 r
      omega
    | some s =>
      rw [onc, hh]
      show (s.2 ++ onc ch (s.1.length - 1) r).length ≤ _
      have h4 := (h s (hit_mem hh).1).n4
      have := onc_len h (s.1.length - 1) r
      rw [List.length_append, List.length_cons]
      omega
theorem abc_onc {ch : List RP} (h : ∀ s ∈ ch, Rp s.1 s.2) : ∀ (k : Nat) (r : List Nat), abc r → abc (onc ch k r)
  | k, [], _ => by rw [onc_nil]; exact abc_nil
  | k + 1, c :: r, ha => by
    rw [onc]
    exact abc_onc h k r fun x hx => ha x (List.mem_cons_of_mem _ hx)
  | 0, c :: r, ha => by
    have hr : abc r := fun x hx => ha x (List.mem_cons_of_mem _ hx)
    cases hh : hit ch (c :: r) with
    | none => rw [onc_no hh]; exact abc_cons (ha c List.mem_cons_self) (abc_onc h 0 r hr)
    | some s =>
      rw [onc, hh]
      exact abc_app (h s (hit_mem hh).1).na (abc_onc h _ r hr)
abbrev once (ch : List RP) (t : List Nat) : List Nat := onc ch 0 t
/-- the good steps at a place -/
theorem hit_filter (ch : List RP) (t : List Nat) (p : Nat) : hit ch (t.drop p) = (ch.filter fun s => decide ((t.drop p).take s.1.length = s.1)).head? := by
  unfold hit
  rw [List.head?_filter]
  congr 1
  funext s
  rw [Bool.eq_iff_iff, List.isPrefixOf_iff_prefix, decide_eq_true_eq]
  exact (pre_iff s.1 t p).symm
/-- the first text of at most n signs with a property -/
def tfirst (p : List Nat → Bool) (n : Nat) : Option (List Nat) := (txs n).find? p
theorem tfirst_succ {p : List Nat → Bool} {n : Nat} : tfirst p (n + 1) = (tfirst p n).or ((lv (n + 1)).find? p) := by
  show (txs n ++ lv (n + 1)).find? _ = _
  rw [List.find?_append]
  rfl
abbrev difT (ch : List RP) : List Nat → Bool := fun t => !decide (once ch t = runS ch t)
/-- the indexes of which the one old word begins the other one -/
def oldAt (ch : List RP) (i : Nat) : List Nat := (ch.getD i ([], [])).1
def pfxB (ch : List RP) (i j : Nat) : Bool := !decide (i = j) && decide (oldAt ch i <+: oldAt ch j)
def pfxI (ch : List RP) (i : Nat) : List (Nat × Nat) := ((List.range ch.length).filter (pfxB ch i)).map fun j => (i, j)
def pfx (ch : List RP) : List (Nat × Nat) := (List.range ch.length).flatMap (pfxI ch)
def pairD (q : Nat × Nat) : PyData := .tuple [.int (q.1 : Int), .int (q.2 : Int)]
/-- all orders -/
def ordsN : Nat → List RP → List (List RP)
  | 0, _ => [[]]
  | n + 1, ch => if ch = [] then [[]] else (List.range ch.length).flatMap fun i => (ordsN n (ch.take i ++ ch.drop (i + 1))).map fun o => ch.getD i ([], []) :: o
abbrev ords (ch : List RP) : List (List RP) := ordsN ch.length ch
abbrev scD (o : List RP) : PyData := .list (o.map rpD)
def omB (ch : List RP) (t : List Nat) : Bool := decide (1 < (((ddp ((ords ch).map fun o => tx (once o t))).length : Nat) : Int))
def F_is_choice (ds : List PyData) (sd : SD) : Prop := ∃ d, ds = [d] ∧ okD d = true ∧ sd = .dt (.bool (isChoD d))
def F_check_choice (ds : List PyData) (sd : SD) : Prop := ∃ d, ds = [d] ∧ okD d = true ∧ sd = chk (isChoD d) "InvalidChoice"
def F_find_at_once (ds : List PyData) (sd : SD) : Prop := ∃ (ch : List RP) (text : List Nat), ds = [scD ch, T text] ∧ RpS ch ∧ text.length ≤ 1000 ∧ sd = .dt (T (once ch text))
/-- a choice that is none, or a text that is none -/
def BadCT (ds : List PyData) (sd : SD) : Prop := ∃ d d2, ds = [d, d2] ∧ okD d = true ∧ okD d2 = true ∧ ((isChoD d = false ∧ sd = .ex "InvalidChoice") ∨ (isChoD d = true ∧ isTextD d2 = false ∧ sd = .ex "InvalidText"))
def F_at_once (ds : List PyData) (sd : SD) : Prop := (∃ (ch : List RP) (text : List Nat), ds = [scD ch, T text] ∧ Ch ch ∧ abc text ∧ text.length ≤ 40 ∧ sd = .dt (T (once ch text))) ∨ BadCT ds sd
def F_do_agree (ds : List PyData) (sd : SD) : Prop := ∃ (ch : List RP) (text : List Nat), ds = [scD ch, T text] ∧ RpS ch ∧ text.length ≤ 1000 ∧ sd = .dt (.bool (decide (once ch text = runS ch text)))
def F_same_as_script (ds : List PyData) (sd : SD) : Prop := (∃ (ch : List RP) (text : List Nat), ds = [scD ch, T text] ∧ Ch ch ∧ abc text ∧ text.length ≤ 40 ∧ sd = .dt (.bool (decide (once ch text = runS ch text)))) ∨ BadCT ds sd
def F_differing_text (ds : List PyData) (sd : SD) : Prop := (∃ (ch : List RP) (n : Nat), ds = [scD ch, .int n] ∧ Ch ch ∧ n ≤ 5 ∧ sd = .dt (optT (tfirst (difT ch) n))) ∨
  (∃ d d2, ds = [d, d2] ∧ okD d = true ∧ okD d2 = true ∧ ((isChoD d = false ∧ sd = .ex "InvalidChoice") ∨ (isChoD d = true ∧ isIntD d2 0 5 = false ∧ sd = .ex "InvalidNumber")))
def F_prefix_pairs (ds : List PyData) (sd : SD) : Prop := (∃ ch : List RP, ds = [scD ch] ∧ Ch ch ∧ sd = .ls ((pfx ch).map pairD)) ∨ (∃ d, ds = [d] ∧ okD d = true ∧ isChoD d = false ∧ sd = .ex "InvalidChoice")
def Fr_orders (n : Nat) (ds : List PyData) (sd : SD) : Prop := ∃ ch : List RP, ds = [scD ch] ∧ RpS ch ∧ ch.length < n ∧ sd = .ls ((ords ch).map scD)
abbrev F_orders := Fr_orders 5
def F_order_matters (ds : List PyData) (sd : SD) : Prop := (∃ (ch : List RP) (text : List Nat), ds = [scD ch, T text] ∧ Ch ch ∧ abc text ∧ text.length ≤ 40 ∧ sd = .dt (.bool (omB ch text))) ∨ BadCT ds sd
theorem len_is_choice : ∀ ds sd, F_is_choice ds sd → ds.length = 1 := by rintro _ _ ⟨_, rfl, _⟩; rfl
theorem len_check_choice : ∀ ds sd, F_check_choice ds sd → ds.length = 1 := by rintro _ _ ⟨_, rfl, _⟩; rfl
theorem len_find_at_once : ∀ ds sd, F_find_at_once ds sd → ds.length = 2 := by rintro _ _ ⟨_, _, rfl, _⟩; rfl
theorem len_at_once : ∀ ds sd, F_at_once ds sd → ds.length = 2 := by rintro _ _ (⟨_, _, rfl, _⟩ | ⟨_, _, rfl, _⟩) <;> rfl
theorem len_do_agree : ∀ ds sd, F_do_agree ds sd → ds.length = 2 := by rintro _ _ ⟨_, _, rfl, _⟩; rfl
theorem len_same_as_script : ∀ ds sd, F_same_as_script ds sd → ds.length = 2 := by rintro _ _ (⟨_, _, rfl, _⟩ | ⟨_, _, rfl, _⟩) <;> rfl
theorem len_differing_text : ∀ ds sd, F_differing_text ds sd → ds.length = 2 := by rintro _ _ (⟨_, _, rfl, _⟩ | ⟨_, _, rfl, _⟩) <;> rfl
theorem len_prefix_pairs : ∀ ds sd, F_prefix_pairs ds sd → ds.length = 1 := by rintro _ _ (⟨_, rfl, _⟩ | ⟨_, rfl, _⟩) <;> rfl
theorem len_orders {n : Nat} : ∀ ds sd, Fr_orders n ds sd → ds.length = 1 := by rintro _ _ ⟨_, rfl, _⟩; rfl
theorem no_orders : ∀ ds sd, ¬ Fr_orders 0 ds sd := by rintro _ _ ⟨_, rfl, _, h, _⟩; omega
theorem len_order_matters : ∀ ds sd, F_order_matters ds sd → ds.length = 2 := by rintro _ _ (⟨_, _, rfl, _⟩ | ⟨_, _, rfl, _⟩) <;> rfl
def t_is_choice (K : PySem.W.Frag) (W : WX) (w : World) : TS :=
  (tSeq (tIfS (tOr (tNot (tB (tCB (rIsi K) (tCons (tVar 0) (tCons (tC (.ty "list")) tNil))))) (tNot (tTest (tChain rLeU rLeU (tC (.int 1)) (tCB (rLenU K) (tCons (tVar 0) tNil)) (tC (.int 3)))))) (tRet (tC (.bl false))) tNext)
    (tSeq (tIfS (tNot (tB (tCB (rAll K) (tCons (tLc (iList K (tVar 0)) (gName 1) tYes (tCallS (spD K F_is_replacement) (WE W0) (tCons (tVar 1) tNil)) [1]) tNil)))) (tRet (tC (.bl false))) tNext)
    (tRet (tOp (rEqU K) (tCB (rLenT w) (tCons (tCB (rSetOfL w) (tCons (tLc (iList K (tVar 0)) (gName 1) tYes (tOp (rIx K) (tVar 1) (tC (.int 0))) [1]) tNil)) tNil)) (tCB (rLenU K) (tCons (tVar 0) tNil))))))
def t_check_choice (K : PySem.W.Frag) (W : WX) : TS :=
  (tIfS (tNot (tB (tCallS (spD K F_is_choice) (WE W) (tCons (tVar 0) tNil)))) (tRaise K W "InvalidChoice") tNext)
def t_find_at_once (K : PySem.W.Frag) (W : WX) : TS :=
  (tSeq (tAsg (tTup (tCons (tC (.str (tx []))) (tCons (tC (.int 0)) tNil))) (gTup K 2 (gCons (gName 2) (gCons (gName 3) gNil))))
    (tSeq (tWhile (tTest (tOp rLtU (tVar 3) (tCB (rLenU K) (tCons (tVar 1) tNil)))) (tSeq (tAsg (tLc (iList K (tVar 0)) (gName 5) (tTest (tOp (rEqU K) (tSl (rSlU K) (tVar 1) (tPart (tVar 3)) (tPart (tOp (rAddU K) (tVar 3) (tCB (rLenU K) (tCons (tOp (rIx K) (tVar 5) (tC (.int 0))) tNil))))) (tOp (rIx K) (tVar 5) (tC (.int 0))))) (tVar 5) [5]) (gName 4))
    (tIfS (tTest (tOp (rEqU K) (tVar 4) (tLst tNil))) (tAsg (tTup (tCons (tOp (rAddU K) (tVar 2) (tOp (rIx K) (tVar 1) (tVar 3))) (tCons (tOp (rAddU K) (tVar 3) (tC (.int 1))) tNil))) (gTup K 2 (gCons (gName 2) (gCons (gName 3) gNil)))) (tAsg (tTup (tCons (tOp (rAddU K) (tVar 2) (tOp (rIx K) (tOp (rIx K) (tVar 4) (tC (.int 0))) (tC (.int 1)))) (tCons (tOp (rAddU K) (tVar 3) (tCB (rLenU K) (tCons (tOp (rIx K) (tOp (rIx K) (tVar 4) (tC (.int 0))) (tC (.int 0))) tNil))) tNil))) (gTup K 2 (gCons (gName 2) (gCons (gName 3) gNil)))))))
    (tRet (tVar 2))))
def t_at_once (K : PySem.W.Frag) (W : WX) : TS :=
  (tSeq (tDrop (tCallS (spD K F_check_choice) (WE W) (tCons (tVar 0) tNil)))
    (tSeq (tDrop (tCallS (spD K F_check_text) (WE W) (tCons (tVar 1) tNil)))
    (tRet (tCallS (spD K F_find_at_once) (WE W) (tCons (tVar 0) (tCons (tVar 1) tNil))))))
def t_do_agree (K : PySem.W.Frag) (W : WX) : TS :=
  (tRet (tOp (rEqU K) (tCallS (spD K F_find_at_once) (WE W) (tCons (tVar 0) (tCons (tVar 1) tNil))) (tCallS (spD K F_find_run) (WE W) (tCons (tVar 0) (tCons (tVar 1) tNil)))))
def t_same_as_script (K : PySem.W.Frag) (W : WX) : TS :=
  (tSeq (tDrop (tCallS (spD K F_check_choice) (WE W) (tCons (tVar 0) tNil)))
    (tSeq (tDrop (tCallS (spD K F_check_text) (WE W) (tCons (tVar 1) tNil)))
    (tRet (tCallS (spD K F_do_agree) (WE W) (tCons (tVar 0) (tCons (tVar 1) tNil))))))
def t_differing_text (K : PySem.W.Frag) (W : WX) : TS :=
  (tSeq (tDrop (tCallS (spD K F_check_choice) (WE W) (tCons (tVar 0) tNil)))
    (tSeq (tDrop (tCallS (spD K F_check_number) (WE W) (tCons (tVar 1) (tCons (tC (.int 0)) (tCons (tC (.int 5)) tNil)))))
    (tSeq (tFor (iRng1 (tCons (tOp (rAddU K) (tVar 1) (tC (.int 1))) tNil)) (gName 2) (tSeq (tAsg (tLc (iList K (tCallS (spD K F_all_texts) (WE W) (tCons (tVar 2) tNil))) (gName 4) (tNot (tB (tCallS (spD K F_do_agree) (WE W0) (tCons (tVar 0) (tCons (tVar 4) tNil))))) (tVar 4) [4]) (gName 3))
    (tIfS (tTest (tOp (rNeU K) (tVar 3) (tLst tNil))) (tRet (tOp (rIx K) (tVar 3) (tC (.int 0)))) tNext)))
    (tRet (tC .non)))))
def t_prefix_pairs (K : PySem.W.Frag) (W : WX) : TS :=
  (tSeq (tDrop (tCallS (spD K F_check_choice) (WE W) (tCons (tVar 0) tNil)))
    (tSeq (tAsg (tLst tNil) (gName 1))
    (tSeq (tFor (iEnum K (tCons (tVar 0) tNil)) (gTup K 2 (gCons (gName 2) (gCons (gName 3) gNil))) (tFor (iEnum K (tCons (tVar 0) tNil)) (gTup K 2 (gCons (gName 4) (gCons (gName 5) gNil))) (tIfS (tAnd (tTest (tOp (rNeU K) (tVar 2) (tVar 4))) (tTest (tOp (rEqU K) (tSl (rSlU K) (tOp (rIx K) (tVar 5) (tC (.int 0))) tNoPart (tPart (tCB (rLenU K) (tCons (tOp (rIx K) (tVar 3) (tC (.int 0))) tNil)))) (tOp (rIx K) (tVar 3) (tC (.int 0)))))) (tDrop (tBM K "list" rAppend (tVar 1) (tCons (tTup (tCons (tVar 2) (tCons (tVar 4) tNil))) tNil))) tNext)))
    (tRet (tVar 1)))))
def t_orders (K : PySem.W.Frag) (W : WX) (n : Nat) : TS :=
  (tSeq (tIfS (tTest (tOp (rEqU K) (tVar 0) (tLst tNil))) (tRet (tLst (tCons (tLst tNil) tNil))) tNext)
    (tSeq (tAsg (tLst tNil) (gName 1))
    (tSeq (tFor (iEnum K (tCons (tVar 0) tNil)) (gTup K 2 (gCons (gName 2) (gCons (gName 3) gNil))) (tAsg (tOp (rAddU K) (tVar 1) (tLc (iList K (tCallS (spD K (Fr_orders n)) (WE W) (tCons (tOp (rAddU K) (tSl (rSlU K) (tVar 0) tNoPart (tPart (tVar 2))) (tSl (rSlU K) (tVar 0) (tPart (tOp (rAddU K) (tVar 2) (tC (.int 1)))) tNoPart)) tNil))) (gName 4) tYes (tOp (rAddU K) (tLst (tCons (tVar 3) tNil)) (tVar 4)) [4])) (gName 1)))
    (tRet (tVar 1)))))
def t_order_matters (K : PySem.W.Frag) (W : WX) (w : World) : TS :=
  (tSeq (tDrop (tCallS (spD K F_check_choice) (WE W) (tCons (tVar 0) tNil)))
    (tSeq (tDrop (tCallS (spD K F_check_text) (WE W) (tCons (tVar 1) tNil)))
    (tRet (tOp rGtU (tCB (rLenT w) (tCons (tCB (rSetOfL w) (tCons (tLc (iList K (tCallS (spD K F_orders) (WE W) (tCons (tVar 0) tNil))) (gName 2) tYes (tCallS (spD K F_find_at_once) (WE W0) (tCons (tVar 2) (tCons (tVar 1) tNil))) [2]) tNil)) tNil)) (tC (.int 1))))))
section
variable {K : PySem.W.Frag} {W : WX} {w : World} {ds : List PyData} {sd : SD} {τ : Tau} {ta tb tc : TE} {E : St → XK}
theorem cutD_R' (l : List PyData) (b : Nat) : cutD l none (some (b : Int)) = l.take b := by
  unfold cutD
  rw [HT.sIx_nat, HT.sIx_none, List.drop_zero, Nat.sub_zero]
  by_cases h : b ≤ l.length
  · rw [Nat.min_eq_left h]
  · rw [Nat.min_eq_right (by omega), List.take_of_length_le (by omega), List.take_of_length_le (by omega)]
theorem cutD_L' (l : List PyData) (a : Nat) : cutD l (some (a : Int)) none = l.drop a := by
  unfold cutD
  rw [HT.sIx_nat, HT.sIx_none, List.take_of_length_le (by rw [List.length_drop]; omega)]
  by_cases h : a ≤ l.length
  · rw [Nat.min_eq_left h]
  · rw [Nat.min_eq_right (by omega), List.drop_of_length_le (by omega), List.drop_of_length_le (by omega)]
theorem sh_rpc {s : RP} (h : Rp s.1 s.2) : Sh 2 (rpD s) := sh_tuple fun d hd => by
  rcases List.mem_cons.mp hd with e | hd
  · rw [e]; exact sh_T h.oa
  · rw [List.mem_singleton.mp hd]; exact sh_T h.na
theorem sh_rps {sc : List RP} (h : ∀ s ∈ sc, Rp s.1 s.2) : ∀ d ∈ sc.map rpD, Sh 2 d := fun d hd => by
  obtain ⟨s, hs, rfl⟩ := List.mem_map.mp hd
  exact sh_rpc (h s hs)
theorem et_eqNilD {xs : List PyData} {n : Nat} {te : TE} (h : EvS K te τ (.list xs)) (hx : ∀ x ∈ xs, Sh n x) (hn : n ≤ 60) : EvT K (tTest (tOp (rEqU K) te (tLst tNil))) τ xs.isEmpty :=
  et_test (ev_is (ev_op h (EvX.frz (ev_lst ea_nil (Nat.zero_le _))) (od_eqD ((sh_list hx).ok (by omega)) ((sh_list (n := 1) (ds := []) fun d hd => by cases hd).ok (by decide)))) (by cases xs <;> rfl))
theorem et_neNilD {xs : List PyData} {n : Nat} {te : TE} (h : EvS K te τ (.list xs)) (hx : ∀ x ∈ xs, Sh n x) (hn : n ≤ 60) : EvT K (tTest (tOp (rNeU K) te (tLst tNil))) τ (!xs.isEmpty) :=
  et_test (ev_is (ev_op h (EvX.frz (ev_lst ea_nil (Nat.zero_le _))) (od_neD ((sh_list hx).ok (by omega)) ((sh_list (n := 1) (ds := []) fun d hd => by cases hd).ok (by decide)))) (by cases xs <;> rfl))
theorem ws_is_choice (h : F_is_choice ds sd) : WS K (t_is_choice K W w) (startD 2 ds) (retE W sd) := by
  obtain ⟨d, rfl, hok, rfl⟩ := h
  show WS K (t_is_choice K W w) [.dt d, .no] _
  unfold t_is_choice
  apply ws_seq
  cases d with
  | list xs =>
    simp only [okD, Bool.and_eq_true, decide_eq_true_eq] at hok
    refine ws_if (b := !(decide (1 ≤ (xs.length : Int)) && decide ((xs.length : Int) ≤ 3))) ?_ (fun hb => ?_) (fun hb => ws_next ?_)
    · apply et_is
      · walk_at "ev"
      · rfl
    · refine ws_ret ev_bool ?_
      show SD.dt (.bool false) = SD.dt (.bool (isChoD (.list xs)))
      unfold isChoD
      simp only [not_tt hb, Bool.false_and]
    · have hb := not_ff hb
      have hl : xs.length ≤ 3 := by
        rw [Bool.and_eq_true, decide_eq_true_eq, decide_eq_true_eq] at hb
        omega
      have hall : EvT K (tB (tCB (rAll K) (tCons (tLc (iList K (tVar 0)) (gName 1) tYes (tCallS (spD K F_is_replacement) (WE W0) (tCons (tVar 1) tNil)) [1]) tNil))) (av [.dt (.list xs), .no]) (xs.all isRepD) := by
        refine et_B (ev_cb (ea_cons (EvX.frz (ev_lcM (l := xs) (d := id) (fun x => .bool (isRepD x)) (by rw [List.map_id]; exact ie_list (ev_var rfl)) (by have := szl; omega) fun x hx => ⟨_, te_name (by decide), e_is_replacement (ev_var rfl) (okAll_mem hok.1 hx)⟩)) ea_nil) ?_)
        have e : (xs.map fun x => PyData.bool (isRepD x)) = (xs.map isRepD).map PyData.bool := by rw [List.map_map]; rfl
        rw [e]
        have h := cd_all (K := K) (bs := xs.map isRepD)
        rw [List.all_map] at h
        exact h
      refine ws_seq (ws_if (et_not hall) (fun hc => ws_ret ev_bool ?_) (fun hc => ws_next ?_))
      · show SD.dt (.bool false) = SD.dt (.bool (isChoD (.list xs)))
        unfold isChoD
        simp only [not_tt hc, Bool.false_and, Bool.and_false]
      · have hc := not_ff hc
        obtain ⟨ch, rfl, hrp⟩ := isReps_inv hc
        rw [List.length_map] at hl
        have he : (((ch.map rpD).map oldS) : List Str) = (ch.map Prod.fst).map tx := oldS_map ch
        refine ws_ret (ev_op (ev_lenSet (ys := ch.map Prod.fst) (EvX.frz (ev_isL (ev_lcM (l := ch) (d := rpD) (fun s => T s.1) (ie_list (ev_var rfl)) (by have := szl; omega) fun s hs => ⟨_, te_name (by decide), ev_op (ev_var rfl) ev_int (od_ix_tup rfl)⟩) (by rw [List.map_map]; rfl))) (by rw [List.length_map]; omega)) (ev_cb (ea_cons (ev_var rfl) ea_nil) cd_lenL) od_eq_int) ?_
        show _ = SD.dt (.bool (isChoD (.list (ch.map rpD))))
        unfold isChoD
        simp only [hc, hb, he, Bool.true_and]
  | dict z => exact absurd rfl (okD_nd hok z)
  | _ =>
    refine ws_if (b := true) (et_orT ?_) (fun _ => ws_ret ev_bool rfl) (fun h => Bool.noConfusion h)
    apply et_is
    · walk_at "ev"
    · rfl
theorem e_is_choice {d : PyData} (ha : EvS K ta τ d) (hok : okD d = true) : EvX K (tCallS (spD K F_is_choice) E (tCons ta tNil)) τ (.dt (.bool (isChoD d))) := ev_call (ea_cons ha ea_nil) ⟨d, rfl, hok, rfl⟩
theorem ws_check_choice (h : F_check_choice ds sd) : WS K (t_check_choice K W) (startD 1 ds) (retE W sd) := by
  obtain ⟨d, rfl, hok, rfl⟩ := h
  refine ws_if (et_not (et_B (e_is_choice (ev_var rfl) hok))) (fun z => ws_raise rfl ?_) fun z => ws_next ?_
  · show chk _ _ = _
    rw [show isChoD d = false by simpa using z]; rfl
  · show chk _ _ = _
    rw [show isChoD d = true by simpa using z]; rfl
theorem er_check_choice {d : PyData} (ha : EvS K ta τ d) (hok : okD d = true) (h : isChoD d = false) : EvR K W (tCallS (spD K F_check_choice) (WE W) (tCons ta tNil)) τ "InvalidChoice" := er_call (ea_cons ha ea_nil) ⟨d, rfl, hok, by rw [h]; rfl⟩
theorem e_check_choiceD {d : PyData} (ha : EvS K ta τ d) (hok : okD d = true) (h : isChoD d = true) : EvX K (tCallS (spD K F_check_choice) E (tCons ta tNil)) τ (.dt .none) := ev_call (ea_cons ha ea_nil) ⟨d, rfl, hok, by rw [h]; rfl⟩
theorem e_check_choice {ch : List RP} (ha : EvS K ta τ (scD ch)) (h : Ch ch) : EvX K (tCallS (spD K F_check_choice) E (tCons ta tNil)) τ (.dt .none) := e_check_choiceD ha (ok_sc h.s) (isCho_ch h)
theorem ws_find_at_once (h : F_find_at_once ds sd) : WS K (t_find_at_once K W) (startD 6 ds) (retE W sd) := by
  obtain ⟨ch, text, rfl, hr, hf, rfl⟩ := h
  have hz := szl
  have h3 := hr.1
  show WS K (t_find_at_once K W) [.dt (scD ch), .dt (T text), .no, .no, .no, .no] _
  unfold t_find_at_once
  have hrl := onc_len hr.2 0 text
  refine ws_seq (ws_asg (ev_tup (ea_cons ev_str (ea_cons ev_int ea_nil)) (by show 2 ≤ sizeLine; decide)) (tg_tup (tgs_cons tg_name (tgs_cons tg_name tgs_nil)) rfl) ?_)
  refine ws_seq (ws_while (fun m τ => ∃ (found : List Nat) (p : Nat) (x4 x5 : SD), τ = [.dt (scD ch), .dt (T text), .dt (T found), .dt (.int (p : Int)), x4, x5] ∧ p ≤ text.length ∧ m = text.length - p ∧ found ++ onc ch 0 (text.drop p) = onc ch 0 text ∧ (x4 = .no ∨ ∃ d, x4 = .dt d)) text.length ⟨[], 0, _, _, rfl, Nat.zero_le _, rfl, rfl, .inl rfl⟩ ?_)
  rintro m τ ⟨found, p, x4, x5, rfl, hp, rfl, he, hx4⟩
  have hlenE := congrArg List.length he
  rw [List.length_append] at hlenE
  refine ⟨decide ((p : Int) < (text.length : Int)), et_test (ev_op (ev_var rfl) (ev_cb (ea_cons (ev_var rfl) ea_nil) (cd_lenT (by omega))) od_lt), fun hd => ?_, fun hd => ?_⟩
  · have hd := of_decide_eq_true hd
    have hd : p < text.length := by omega
    refine ws_seq (ws_set (sd := .ls ((ch.filter fun s => decide ((text.drop p).take s.1.length = s.1)).map rpD)) (ev_lcF (l := ch) (d := rpD) (fun s => decide ((text.drop p).take s.1.length = s.1)) rpD (ie_list (ev_var rfl)) (by omega) fun s hs => ⟨_, te_name (by decide), ?_, fun _ => ev_var rfl⟩) ?_)
    · have ho4 := (hr.2 s hs).o4
      have h0 : ∀ {τ : Tau}, τ[5]? = some (some (rpD s)) → EvS K (tOp (rIx K) (tVar 5) (tC (.int 0))) τ (T s.1) := fun h => ev_op (ev_var h) ev_int (od_ix_tup rfl)
      exact et_test (ev_is (ev_op (ev_sl (ev_var rfl) (eo_some (ev_var rfl)) (eo_some (ev_is (ev_op (ev_var rfl) (ev_cb (ea_cons (h0 rfl) ea_nil) (cd_lenT (by omega))) od_add_int) (d' := .int ((p + s.1.length : Nat) : Int)) (by congr 1))) (sd_T2 (by omega))) (h0 rfl) od_eqT) (by rw [Nat.add_sub_cancel_left]))
    refine ws_frz 4 rfl ?_
    have hh := hit_filter ch text p
    have hsub : ∀ s ∈ ch.filter (fun s => decide ((text.drop p).take s.1.length = s.1)), Rp s.1 s.2 := fun s hs => hr.2 s (List.mem_filter.mp hs).1
    generalize ch.filter (fun s => decide ((text.drop p).take s.1.length = s.1)) = good at hh hsub ⊢
    refine ws_if (et_eqNilD (ev_var rfl) (sh_rps hsub) (by decide)) (fun hb => ?_) (fun hb => ?_)
    · have e0 : good = [] := by cases good with
        | nil => rfl
        | cons a b => cases hb
      rw [e0] at hh
      rw [List.drop_eq_getElem_cons hd] at hh
      rw [List.drop_eq_getElem_cons hd, onc_no hh] at he hlenE
      rw [List.length_cons] at hlenE
      refine ws_asg (ev_tup (ds := [T (found ++ [text[p]]), .int ((p + 1 : Nat) : Int)]) (ea_cons (ev_op (ev_var rfl) (ev_op (ev_var rfl) (ev_var rfl) (od_ixT (by omega) ?_)) (od_addT (by rw [List.length_singleton]; omega))) (ea_cons (ev_is (ev_op (ev_var rfl) ev_int od_add_int) (by congr 1)) ea_nil)) (by show 2 ≤ sizeLine; decide)) (tg_tup (tgs_cons tg_name (tgs_cons tg_name tgs_nil)) rfl) ⟨text.length - (p + 1), by omega, found ++ [text[p]], p + 1, _, _, rfl, by omega, rfl, ?_, .inr ⟨_, rfl⟩⟩
      · unfold atI ixN
        rw [if_pos (by omega), if_pos (by omega)]
        show text[((p : Int)).toNat]? = _
        rw [Int.toNat_natCast, List.getElem?_eq_getElem hd]
      · rw [List.append_assoc]
        exact he
    · cases good with
      | nil => cases hb
      | cons s r =>
        have hs := hsub s List.mem_cons_self
        have ho1 := hs.o1
        have ho4 := hs.o4
        have hh : hit ch (text.drop p) = some s := hh
        have hpl := (hit_mem hh).2.length_le
        rw [List.length_drop] at hpl
        rw [onc_yes hh hs.ne, List.drop_drop] at he hlenE
        rw [List.length_append] at hlenE
        have hg : ∀ {τ : Tau}, τ[4]? = some (some (.list ((s :: r).map rpD))) → EvS K (tOp (rIx K) (tVar 4) (tC (.int 0))) τ (rpD s) := fun h => ev_op (ev_var h) ev_int (od_ix_list at0)
        refine ws_asg (ev_tup (ds := [T (found ++ s.2), .int ((p + s.1.length : Nat) : Int)]) (ea_cons (ev_op (ev_var rfl) (ev_op (hg rfl) ev_int (od_ix_tup rfl)) (od_addT (by omega))) (ea_cons (ev_is (ev_op (ev_var rfl) (ev_cb (ea_cons (ev_op (sd := .dt (T s.1)) (hg rfl) ev_int (od_ix_tup rfl)) ea_nil) (cd_lenT (by omega))) od_add_int) (by congr 1)) ea_nil)) (by show 2 ≤ sizeLine; decide)) (tg_tup (tgs_cons tg_name (tgs_cons tg_name tgs_nil)) rfl) ⟨text.length - (p + s.1.length), by omega, found ++ s.2, p + s.1.length, _, _, rfl, by omega, rfl, ?_, .inr ⟨_, rfl⟩⟩
        rw [List.append_assoc]
        exact he
  · have hd := of_decide_eq_false hd
    have e0 : text.drop p = [] := List.drop_eq_nil_of_le (by omega)
    rw [e0, onc_nil, List.append_nil] at he
    rw [he]
    exact ws_ret (ev_var rfl) rfl
theorem e_find_at_once {ch : List RP} {text : List Nat} (ha : EvS K ta τ (scD ch)) (hb : EvS K tb τ (T text)) (h : RpS ch) (hl : text.length ≤ 1000) : EvX K (tCallS (spD K F_find_at_once) E (tCons ta (tCons tb tNil))) τ (.dt (T (once ch text))) := ev_call (ea_cons ha (ea_cons hb ea_nil)) ⟨ch, text, rfl, h, hl, rfl⟩
/-- the checks of a choice and a text, where one is none -/
theorem ws_badCT {t : TS} {x : List SD} (h : BadCT ds sd) : WS K (tSeq (tDrop (tCallS (spD K F_check_choice) (WE W) (tCons (tVar 0) tNil))) (tSeq (tDrop (tCallS (spD K F_check_text) (WE W) (tCons (tVar 1) tNil))) t)) (ds.map SD.dt ++ x) (retE W sd) := by
  obtain ⟨d, d2, rfl, h1, h2, ⟨e1, rfl⟩ | ⟨e1, e2, rfl⟩⟩ := h
  · exact ws_seq (ws_dropR rfl (er_check_choice (ev_var rfl) h1 e1) rfl)
  · exact ws_seq (ws_drop (e_check_choiceD (ev_var rfl) h1 e1) (ws_seq (ws_dropR rfl (er_check_text (ev_var rfl) h2 e2) rfl)))
theorem ws_at_once (h : F_at_once ds sd) : WS K (t_at_once K W) (startD 2 ds) (retE W sd) := by
  rcases h with ⟨ch, text, rfl, hc, ha, hl, rfl⟩ | h
  · exact ws_seq (ws_drop (e_check_choice (ev_var rfl) hc) (ws_seq (ws_drop (e_check_text (ev_var rfl) ha hl) (ws_ret (e_find_at_once (ev_var rfl) (ev_var rfl) hc.s (by omega)) rfl))))
  · exact ws_badCT h
theorem e_at_once {ch : List RP} {text : List Nat} (ha : EvS K ta τ (scD ch)) (hb : EvS K tb τ (T text)) (h : Ch ch) (h1 : abc text) (hl : text.length ≤ 40) : EvX K (tCallS (spD K F_at_once) E (tCons ta (tCons tb tNil))) τ (.dt (T (once ch text))) := ev_call (ea_cons ha (ea_cons hb ea_nil)) (.inl ⟨ch, text, rfl, h, h1, hl, rfl⟩)
theorem ws_do_agree (h : F_do_agree ds sd) : WS K (t_do_agree K W) (startD 2 ds) (retE W sd) := by
  obtain ⟨ch, text, rfl, hc, hl, rfl⟩ := h
  exact ws_ret (ev_op (e_find_at_once (ev_var rfl) (ev_var rfl) hc hl) (e_find_run (ev_var rfl) (ev_var rfl) hc hl) od_eqT) rfl
theorem e_do_agree {ch : List RP} {text : List Nat} (ha : EvS K ta τ (scD ch)) (hb : EvS K tb τ (T text)) (h : RpS ch) (hl : text.length ≤ 1000) : EvX K (tCallS (spD K F_do_agree) E (tCons ta (tCons tb tNil))) τ (.dt (.bool (decide (once ch text = runS ch text)))) := ev_call (ea_cons ha (ea_cons hb ea_nil)) ⟨ch, text, rfl, h, hl, rfl⟩
theorem ws_same_as_script (h : F_same_as_script ds sd) : WS K (t_same_as_script K W) (startD 2 ds) (retE W sd) := by
  rcases h with ⟨ch, text, rfl, hc, ha, hl, rfl⟩ | h
  · exact ws_seq (ws_drop (e_check_choice (ev_var rfl) hc) (ws_seq (ws_drop (e_check_text (ev_var rfl) ha hl) (ws_ret (e_do_agree (ev_var rfl) (ev_var rfl) hc.s (by omega)) rfl))))
  · exact ws_badCT h
theorem e_same_as_script {ch : List RP} {text : List Nat} (ha : EvS K ta τ (scD ch)) (hb : EvS K tb τ (T text)) (h : Ch ch) (h1 : abc text) (hl : text.length ≤ 40) : EvX K (tCallS (spD K F_same_as_script) E (tCons ta (tCons tb tNil))) τ (.dt (.bool (decide (once ch text = runS ch text)))) := ev_call (ea_cons ha (ea_cons hb ea_nil)) (.inl ⟨ch, text, rfl, h, h1, hl, rfl⟩)
theorem tfirst_up {p : List Nat → Bool} {i : Nat} {t : List Nat} (hI : ∀ j, j < i → (lv j).find? p = none) (h : (lv i).find? p = some t) : ∀ m, i ≤ m → tfirst p m = some t := by
  intro m hm
  induction m with
  | zero =>
    have e0 : i = 0 := by omega
    subst e0
    exact h
  | succ m ih =>
    rw [tfirst_succ]
    by_cases hc : i ≤ m
    · rw [ih hc]; rfl
    · have e0 : i = m + 1 := by omega
      subst e0
      have e1 : ∀ k, k ≤ m → tfirst p k = none := by
        intro k hk
        induction k with
        | zero => exact hI 0 (by omega)
        | succ k ihk => rw [tfirst_succ, ihk (by omega), hI (k + 1) (by omega)]; rfl
      rw [e1 m (Nat.le_refl _), h]
      rfl
theorem tfirst_no {p : List Nat → Bool} {n : Nat} (hI : ∀ j, j < n + 1 → (lv j).find? p = none) : tfirst p n = none := by
  have e1 : ∀ k, k ≤ n → tfirst p k = none := by
    intro k hk
    induction k with
    | zero => exact hI 0 (by omega)
    | succ k ihk => rw [tfirst_succ, ihk (by omega), hI (k + 1) (by omega)]; rfl
  exact e1 n (Nat.le_refl _)
theorem ws_differing_text (h : F_differing_text ds sd) : WS K (t_differing_text K W) (startD 5 ds) (retE W sd) := by
  rcases h with ⟨ch, n, rfl, hc, hn, rfl⟩ | ⟨d, d2, rfl, g1, g2, ⟨e1, rfl⟩ | ⟨e1, e2, rfl⟩⟩
  · show WS K (t_differing_text K W) [.dt (scD ch), .dt (.int n), .no, .no, .no] _
    unfold t_differing_text
    refine ws_seq (ws_drop (e_check_choice (ev_var rfl) hc) (ws_seq (ws_drop (e_check_number (ev_var rfl) ev_int ev_int rfl (by
      show (decide ((0 : Int) ≤ n) && decide ((n : Int) ≤ 5)) = true
      rw [decide_eq_true (by omega), decide_eq_true (by omega)]; rfl)) ?_)))
    refine ws_seq (ws_forN (in_range1 (n := (n : Int) + 1) (ea_cons (ev_op (ev_var rfl) ev_int od_add_int) ea_nil) (by omega) (by omega)) (fun i τ => ∃ x2 x3 x4, τ = [.dt (scD ch), .dt (.int n), x2, x3, x4] ∧ ∀ j, j < i → (lv j).find? (difT ch) = none) ⟨_, _, _, rfl, fun j hj => by omega⟩ ?_ ?_)
    · rintro i x τ hx ⟨x2, x3, x4, rfl, hI⟩
      obtain ⟨hi, rfl⟩ := rng_get hx
      have hi : i < n + 1 := by omega
      have hlv := lv_len i
      have hp := pow3_8 (show i ≤ 8 by omega)
      refine ⟨_, tg_name, ?_⟩
      refine ws_seq (ws_set (sd := .ls (((lv i).filter (difT ch)).map T)) (ev_lcF (l := lv i) (d := T) (difT ch) T (ie_list (EvX.frz (e_all_texts (n := i) (ev_is (ev_var rfl) (by congr 1; omega)) (by omega)))) (by have := szl; omega) fun t ht => ⟨_, te_name (by decide), et_not (et_B (e_do_agree (ev_var rfl) (ev_var rfl) hc.s (by have := (lv_mem.mp ht).2; omega))), fun _ => ev_var rfl⟩) ?_)
      refine ws_frz 3 rfl ?_
      have hff := find_filter (p := difT ch) (lv i)
      have hab : ∀ t ∈ (lv i).filter (difT ch), abc t := fun t ht => (lv_mem.mp (List.mem_filter.mp ht).1).1
      generalize (lv i).filter (difT ch) = F at hff hab ⊢
      refine ws_if (et_neNil (ev_var rfl) hab) (fun hb => ?_) (fun hb => ws_next ⟨_, _, _, rfl, fun j hj => ?_⟩)
      · cases F with
        | nil => cases hb
        | cons t r =>
          refine ws_ret (ev_op (ev_var rfl) ev_int (od_ix_list (d := T t) at0)) ?_
          show _ = SD.dt (optT (tfirst (difT ch) n))
          rw [tfirst_up hI hff n (by omega)]
          rfl
      · cases F with
        | cons t r => cases hb
        | nil =>
          by_cases hc : j < i
          · exact hI j hc
          · have e0 : j = i := by omega
            subst e0
            exact hff
    · rintro τ ⟨x2, x3, x4, rfl, hI⟩
      rw [rng_len] at hI
      refine ws_ret ev_none ?_
      show _ = SD.dt (optT (tfirst (difT ch) n))
      rw [tfirst_no fun j hj => hI j (by omega)]
      rfl
  · exact ws_seq (ws_dropR rfl (er_check_choice (ev_var rfl) g1 e1) rfl)
  · exact ws_seq (ws_drop (e_check_choiceD (ev_var rfl) g1 e1) (ws_seq (ws_dropR rfl (er_check_number (ev_var rfl) ev_int ev_int g2 e2) rfl)))
theorem e_differing_text {ch : List RP} {n : Nat} (ha : EvS K ta τ (scD ch)) (hb : EvS K tb τ (.int n)) (h : Ch ch) (hn : n ≤ 5) : EvX K (tCallS (spD K F_differing_text) E (tCons ta (tCons tb tNil))) τ (.dt (optT (tfirst (difT ch) n))) := ev_call (ea_cons ha (ea_cons hb ea_nil)) (.inl ⟨ch, n, rfl, h, hn, rfl⟩)
theorem range_take {n i : Nat} (h : i < n) : (List.range n).take (i + 1) = (List.range n).take i ++ [i] := take_step (by rw [List.getElem?_range h])
theorem oldAt_get {ch : List RP} {i : Nat} {s : RP} (h : ch[i]? = some s) : oldAt ch i = s.1 := by
  unfold oldAt
  rw [List.getD_eq_getElem?_getD, h]; rfl
theorem pfxI_len (ch : List RP) (i : Nat) : (pfxI ch i).length ≤ ch.length := by
  unfold pfxI
  rw [List.length_map]
  have := List.length_filter_le (pfxB ch i) (List.range ch.length)
  rw [List.length_range] at this
  exact this
theorem fm_le {α β : Type} {f : α → List β} {k : Nat} : ∀ (l : List α), (∀ x ∈ l, (f x).length ≤ k) → (l.flatMap f).length ≤ l.length * k
  | [], _ => by simp
  | a :: l, h => by
    rw [List.flatMap_cons, List.length_append, List.length_cons, Nat.succ_mul]
    have := h a List.mem_cons_self
    have := fm_le l fun x hx => h x (List.mem_cons_of_mem _ hx)
    omega
theorem ws_prefix_pairs (h : F_prefix_pairs ds sd) : WS K (t_prefix_pairs K W) (startD 6 ds) (retE W sd) := by
  rcases h with ⟨ch, rfl, hc, rfl⟩ | ⟨d, rfl, h1, h2, rfl⟩
  · show WS K (t_prefix_pairs K W) [.dt (scD ch), .no, .no, .no, .no, .no] _
    unfold t_prefix_pairs
    have hz := szl
    have h3 := hc.s.1
    have hel : (enumD (ch.map rpD)).length = ch.length := by rw [enumD_len, List.length_map]
    refine ws_seq (ws_drop (e_check_choice (ev_var rfl) hc) (ws_seq (ws_set (ev_lst ea_nil (Nat.zero_le _)) ?_)))
    refine ws_seq (ws_for (ie_enumL (ev_var rfl)) (fun i τ => ∃ x2 x3 x4 x5, τ = [.dt (scD ch), .ls ((((List.range ch.length).take i).flatMap (pfxI ch)).map pairD), x2, x3, x4, x5]) ⟨_, _, _, _, rfl⟩ ?_ ?_)
    · rintro i x τ hx ⟨x2, x3, x4, x5, rfl⟩
      obtain ⟨y, hy, rfl⟩ := enumD_get.mp hx
      obtain ⟨s, hs, rfl⟩ := map_get hy
      have hil := (List.getElem?_eq_some_iff.mp hs).1
      have hrs := hc.s.2 s (List.mem_of_getElem? hs)
      have hso4 := hrs.o4
      refine ⟨_, tg_tup (tgs_cons tg_name (tgs_cons tg_name tgs_nil)) rfl, ?_⟩
      generalize hpre : ((List.range ch.length).take i).flatMap (pfxI ch) = pre
      have hprel : pre.length ≤ 9 := by
        have := fm_le (f := pfxI ch) (k := ch.length) ((List.range ch.length).take i) fun x _ => pfxI_len ch x
        rw [hpre, List.length_take, List.length_range] at this
        have h9 : min i ch.length * ch.length ≤ 3 * 3 := Nat.mul_le_mul (by omega) h3
        omega
      refine ws_for (ie_enumL (ev_var rfl)) (fun j τ => ∃ x4 x5, τ = [.dt (scD ch), .ls ((pre ++ (((List.range ch.length).take j).filter (pfxB ch i)).map fun k => (i, k)).map pairD), .dt (.int (i : Int)), .dt (rpD s), x4, x5]) ⟨x4, x5, by simp⟩ ?_ ?_
      · rintro j x τ hx ⟨y4, y5, rfl⟩
        obtain ⟨y, hy, rfl⟩ := enumD_get.mp hx
        obtain ⟨o, ho, rfl⟩ := map_get hy
        have hjl := (List.getElem?_eq_some_iff.mp ho).1
        have hro := hc.s.2 o (List.mem_of_getElem? ho)
        have hoo4 := hro.o4
        refine ⟨_, tg_tup (tgs_cons tg_name (tgs_cons tg_name tgs_nil)) rfl, ?_⟩
        have hfl := List.length_filter_le (pfxB ch i) ((List.range ch.length).take j)
        rw [List.length_take, List.length_range] at hfl
        refine ws_if (b := pfxB ch i j) (et_is (et_and (a := !decide ((i : Int) = (j : Int))) (b := decide (o.1.take s.1.length = s.1)) (et_test (ev_op (ev_var rfl) (ev_var rfl) od_ne_int)) fun _ => et_test (ev_op (ev_sl (ev_op (sd := .dt (T o.1)) (ev_var rfl) ev_int (od_ix_tup rfl)) eo_none (eo_some (ev_cb (ea_cons (ev_op (sd := .dt (T s.1)) (ev_var rfl) ev_int (od_ix_tup rfl)) ea_nil) (cd_lenT (by omega)))) (sd_TR (by omega))) (ev_op (sd := .dt (T s.1)) (ev_var rfl) ev_int (od_ix_tup rfl)) od_eqT)) ?_) (fun hb => ?_) (fun hb => ws_next ?_)
        · unfold pfxB
          rw [oldAt_get hs, oldAt_get ho]
          have e1 : decide ((i : Int) = (j : Int)) = decide (i = j) := by rw [Bool.eq_iff_iff, decide_eq_true_eq, decide_eq_true_eq]; omega
          have e2 := pre_iff s.1 o.1 0
          rw [List.drop_zero] at e2
          rw [e1]
          congr 1
          rw [Bool.eq_iff_iff, decide_eq_true_eq, decide_eq_true_eq]
          exact e2
        · refine ws_append (i := 1) rfl (ev_tup (ea_cons (ev_var rfl) (ea_cons (ev_var rfl) ea_nil)) (by show 2 ≤ sizeLine; decide)) (by rw [List.length_map, List.length_append, List.length_map]; omega) ⟨.dt (.int (j : Int)), .dt (rpD o), ?_⟩
          have e : ((List.range ch.length).take (j + 1)).filter (pfxB ch i) = ((List.range ch.length).take j).filter (pfxB ch i) ++ [j] := by
            rw [range_take hjl, List.filter_append, show List.filter (pfxB ch i) [j] = [j] by rw [List.filter_cons, if_pos hb]; rfl]
          rw [e]
          simp only [List.map_append, List.append_assoc]
          rfl
        · refine ⟨.dt (.int (j : Int)), .dt (rpD o), ?_⟩
          rw [range_take hjl, List.filter_append]
          rw [show List.filter (pfxB ch i) [j] = [] by rw [List.filter_cons, if_neg (by rw [hb]; exact Bool.false_ne_true)]; rfl]
          rw [List.append_nil]
          rfl
      · rintro τ ⟨y4, y5, rfl⟩
        rw [hel]
        refine ⟨.dt (.int (i : Int)), .dt (rpD s), y4, y5, ?_⟩
        rw [range_take hil, List.flatMap_append, hpre]
        rw [List.take_of_length_le (by rw [List.length_range]; exact Nat.le_refl _)]
        simp only [List.flatMap_cons, List.flatMap_nil, List.append_nil]
        rfl
    · rintro τ ⟨x2, x3, x4, x5, rfl⟩
      rw [hel, List.take_of_length_le (by rw [List.length_range]; exact Nat.le_refl _)]
      exact ws_retV (i := 1) rfl (fun z => nomatch z) rfl
  · exact ws_seq (ws_dropR rfl (er_check_choice (ev_var rfl) h1 h2) rfl)
theorem e_prefix_pairs {ch : List RP} (ha : EvS K ta τ (scD ch)) (h : Ch ch) : EvX K (tCallS (spD K F_prefix_pairs) E (tCons ta tNil)) τ (.ls ((pfx ch).map pairD)) := ev_call (ea_cons ha ea_nil) (.inl ⟨ch, rfl, h, rfl⟩)
theorem rpS_cut' {sc : List RP} (h : RpS sc) (i : Nat) : RpS (sc.take i ++ sc.drop (i + 1)) := ⟨by
  have := h.1
  rw [List.length_append, List.length_take, List.length_drop]; omega, fun s hs => by
  rcases List.mem_append.mp hs with z | z
  · exact h.2 s (List.mem_of_mem_take z)
  · exact h.2 s (List.mem_of_mem_drop z)⟩
theorem cut_len {sc : List RP} {i : Nat} (h : i < sc.length) : (sc.take i ++ sc.drop (i + 1)).length = sc.length - 1 := by
  rw [List.length_append, List.length_take, List.length_drop]; omega
/-- all orders, one step after the other -/
def ordI (ch : List RP) (i : Nat) : List (List RP) := (ords (ch.take i ++ ch.drop (i + 1))).map fun o => ch.getD i ([], []) :: o
theorem ords_eq {ch : List RP} (h : ch ≠ []) : ords ch = (List.range ch.length).flatMap (ordI ch) := by
  unfold ords
  cases hl : ch.length with
  | zero => exact absurd (List.length_eq_zero_iff.mp hl) h
  | succ n =>
    rw [ordsN, if_neg h, hl]
    rw [List.flatMap_def, List.flatMap_def]
    congr 1
    refine List.map_congr_left fun i hi => ?_
    unfold ordI ords
    rw [cut_len (by rw [hl]; exact List.mem_range.mp hi), hl, Nat.add_sub_cancel]
theorem ords_small : ∀ (n : Nat) {ch : List RP}, ch.length = n → n ≤ 3 → (ords ch).length ≤ 6 ∧ (n ≤ 2 → (ords ch).length ≤ 2) ∧ (n ≤ 1 → (ords ch).length ≤ 1)
  | 0, ch, h, _ => by rw [List.length_eq_zero_iff.mp h]; exact ⟨by decide, fun _ => by decide, fun _ => by decide⟩
  | n + 1, ch, h, h3 => by
    have hne : ch ≠ [] := fun z => by rw [z] at h; cases h
    have key : ∀ i, i < ch.length → (ordI ch i).length = (ords (ch.take i ++ ch.drop (i + 1))).length ∧ (ch.take i ++ ch.drop (i + 1)).length = n := fun i hi => ⟨by unfold ordI; rw [List.length_map], by rw [cut_len hi]; omega⟩
    rw [ords_eq hne]
    match n, h, h3, key with
    | 0, h, _, key =>
      have := fm_le (f := ordI ch) (k := 1) (List.range ch.length) fun i hi => by
        obtain ⟨k1, k2⟩ := key i (List.mem_range.mp hi)
        rw [k1]; exact (ords_small 0 k2 (by omega)).2.2 (by omega)
      rw [List.length_range] at this
      exact ⟨by omega, fun _ => by omega, fun _ => by omega⟩
    | 1, h, _, key =>
      have := fm_le (f := ordI ch) (k := 1) (List.range ch.length) fun i hi => by
        obtain ⟨k1, k2⟩ := key i (List.mem_range.mp hi)
        rw [k1]; exact (ords_small 1 k2 (by omega)).2.2 (by omega)
      rw [List.length_range] at this
      exact ⟨by omega, fun _ => by omega, fun z => by omega⟩
    | 2, h, _, key =>
      have := fm_le (f := ordI ch) (k := 2) (List.range ch.length) fun i hi => by
        obtain ⟨k1, k2⟩ := key i (List.mem_range.mp hi)
        rw [k1]; exact (ords_small 2 k2 (by omega)).2.1 (by omega)
      rw [List.length_range] at this
      exact ⟨by omega, fun z => by omega, fun z => by omega⟩
theorem ords_rp : ∀ (n : Nat) {ch : List RP}, ch.length = n → RpS ch → ∀ o ∈ ords ch, RpS o ∧ o.length = n
  | 0, ch, h, _, o, ho => by
    rw [List.length_eq_zero_iff.mp h] at ho
    have : o = [] := by simpa [ords, ordsN] using ho
    rw [this]
    exact ⟨⟨by decide, fun s hs => by cases hs⟩, rfl⟩
  | n + 1, ch, h, hr, o, ho => by
    have hne : ch ≠ [] := fun z => by rw [z] at h; cases h
    rw [ords_eq hne, List.mem_flatMap] at ho
    obtain ⟨i, hi, ho⟩ := ho
    have hi := List.mem_range.mp hi
    unfold ordI at ho
    obtain ⟨r, hr2, rfl⟩ := List.mem_map.mp ho
    have ih := ords_rp n (by rw [cut_len hi]; omega) (rpS_cut' hr i) r hr2
    have h3 := hr.1
    refine ⟨⟨by rw [List.length_cons]; omega, fun s hs => ?_⟩, by rw [List.length_cons, ih.2]⟩
    rcases List.mem_cons.mp hs with e | hs
    · rw [e, List.getD_eq_getElem?_getD, List.getElem?_eq_getElem hi]
      exact hr.2 _ (List.getElem_mem hi)
    · exact ih.1.2 s hs
theorem ws_orders {n : Nat} (h : Fr_orders (n + 1) ds sd) : WS K (t_orders K W n) (startD 5 ds) (retE W sd) := by
  obtain ⟨ch, rfl, hr, hl, rfl⟩ := h
  show WS K (t_orders K W n) [.dt (scD ch), .no, .no, .no, .no] _
  unfold t_orders
  have hz := szl
  have h3 := hr.1
  have hel : (enumD (ch.map rpD)).length = ch.length := by rw [enumD_len, List.length_map]
  refine ws_seq (ws_if (et_eqNilD (ev_var rfl) (sh_rps hr.2) (by decide)) (fun hb => ?_) (fun hb => ws_next ?_))
  · have e0 : ch = [] := by cases ch with
      | nil => rfl
      | cons a b => cases hb
    subst e0
    exact ws_ret (ev_lst (ea_cons (EvX.frz (ev_lst ea_nil (Nat.zero_le _))) ea_nil) (by show 1 ≤ sizeLine; decide)) rfl
  · have hne : ch ≠ [] := fun z => by rw [z] at hb; cases hb
    refine ws_seq (ws_set (ev_lst ea_nil (Nat.zero_le _)) ?_)
    refine ws_seq (ws_for (ie_enumL (ev_var rfl)) (fun i τ => ∃ x2 x3 x4, τ = [.dt (scD ch), .ls ((((List.range ch.length).take i).flatMap (ordI ch)).map scD), x2, x3, x4]) ⟨_, _, _, rfl⟩ ?_ ?_)
    · rintro i x τ hx ⟨x2, x3, x4, rfl⟩
      obtain ⟨y, hy, rfl⟩ := enumD_get.mp hx
      obtain ⟨s, hs, rfl⟩ := map_get hy
      have hil := (List.getElem?_eq_some_iff.mp hs).1
      refine ⟨_, tg_tup (tgs_cons tg_name (tgs_cons tg_name tgs_nil)) rfl, ?_⟩
      refine ws_frz 1 rfl ?_
      have hcut := rpS_cut' hr i
      have hcl := cut_len hil
      have hosm := (ords_small _ (rfl : (ch.take i ++ ch.drop (i + 1)).length = _) (by omega)).1
      have hprel : (((List.range ch.length).take i).flatMap (ordI ch)).length ≤ 18 := by
        have := fm_le (f := ordI ch) (k := 6) ((List.range ch.length).take i) fun x hx => by
          unfold ordI
          rw [List.length_map]
          have hx := List.mem_range.mp (List.mem_of_mem_take hx)
          exact (ords_small _ rfl (by rw [cut_len hx]; omega)).1
        rw [List.length_take, List.length_range] at this
        omega
      have hcall : EvX K (tCallS (spD K (Fr_orders n)) (WE W) (tCons (tOp (rAddU K) (tSl (rSlU K) (tVar 0) tNoPart (tPart (tVar 2))) (tSl (rSlU K) (tVar 0) (tPart (tOp (rAddU K) (tVar 2) (tC (.int 1)))) tNoPart)) tNil)) (dv [.dt (scD ch), .dt (.list ((((List.range ch.length).take i).flatMap (ordI ch)).map scD)), .dt (.int ((i : Nat) : Int)), .dt (rpD s), x4]) (.ls ((ords (ch.take i ++ ch.drop (i + 1))).map scD)) := by
        refine ev_call (ea_cons (x := scD (ch.take i ++ ch.drop (i + 1))) (EvX.frz (ev_isL (ev_op (SlcD.frz sd_list |> ev_sl (ev_var rfl) eo_none (eo_some (ev_var rfl))) (SlcD.frz sd_list |> ev_sl (ev_var rfl) (eo_some (ev_is (ev_op (ev_var rfl) ev_int od_add_int) (d' := .int ((i + 1 : Nat) : Int)) (by congr 1))) eo_none) (od_add_list ?_)) ?_)) ea_nil) ⟨_, rfl, hcut, by omega, rfl⟩
        · rw [cutD_R', cutD_L', List.length_take, List.length_drop, List.length_map]; omega
        · rw [cutD_R', cutD_L', ← List.map_take, ← List.map_drop, ← List.map_append]
      refine ws_set (ev_isL (ev_op (ev_var rfl) (EvX.frz (ev_lcM (l := ords (ch.take i ++ ch.drop (i + 1))) (d := scD) (fun o => scD (s :: o)) (ie_list (EvX.frz hcall)) (by omega) fun o ho => ⟨_, te_name (by decide), EvX.frz (ev_op (EvX.frz (ev_lst (ea_cons (ev_var rfl) ea_nil) (by show 1 ≤ sizeLine; decide))) (ev_var rfl) (od_add_list (by
          have := (ords_rp _ rfl hcut o ho).2
          rw [List.length_map, List.length_singleton]; omega)))⟩)) (od_add_list (by rw [List.length_map, List.length_map]; omega))) ?_) ⟨_, _, _, rfl⟩
      rw [range_take hil, List.flatMap_append, List.map_append]
      congr 1
      simp only [List.flatMap_cons, List.flatMap_nil, List.append_nil]
      unfold ordI
      rw [List.map_map, List.getD_eq_getElem?_getD, hs]
      rfl
    · rintro τ ⟨x2, x3, x4, rfl⟩
      rw [hel, List.take_of_length_le (by rw [List.length_range]; exact Nat.le_refl _), ← ords_eq hne]
      exact ws_retV (i := 1) rfl (fun z => nomatch z) rfl
theorem e_orders {ch : List RP} (ha : EvS K ta τ (scD ch)) (h : RpS ch) : EvX K (tCallS (spD K F_orders) E (tCons ta tNil)) τ (.ls ((ords ch).map scD)) := ev_call (ea_cons ha ea_nil) ⟨ch, rfl, h, by have := h.1; omega, rfl⟩
theorem ws_order_matters (h : F_order_matters ds sd) : WS K (t_order_matters K W w) (startD 3 ds) (retE W sd) := by
  rcases h with ⟨ch, text, rfl, hc, ha, hl, rfl⟩ | h
  · have hosm := (ords_small _ (rfl : ch.length = _) hc.s.1).1
    refine ws_seq (ws_drop (e_check_choice (ev_var rfl) hc) (ws_seq (ws_drop (e_check_text (ev_var rfl) ha hl) (ws_ret (ev_op (ev_lenSet (ys := (ords ch).map fun o => once o text) (EvX.frz (ev_isL (ev_lcM (l := ords ch) (d := scD) (fun o => T (once o text)) (ie_list (EvX.frz (e_orders (ev_var rfl) hc.s))) (by have := szl; omega) fun o ho => ⟨_, te_name (by decide), e_find_at_once (ev_var rfl) (ev_var rfl) (ords_rp _ rfl hc.s o ho).1 (by omega)⟩) (by rw [List.map_map]; rfl))) (by rw [List.length_map]; omega)) ev_int od_gt) ?_))))
    show _ = SD.dt (.bool (omB ch text))
    unfold omB
    rw [List.map_map]
    rfl
  · exact ws_badCT h
theorem e_order_matters {ch : List RP} {text : List Nat} (ha : EvS K ta τ (scD ch)) (hb : EvS K tb τ (T text)) (h : Ch ch) (h1 : abc text) (hl : text.length ≤ 40) : EvX K (tCallS (spD K F_order_matters) E (tCons ta (tCons tb tNil))) τ (.dt (.bool (omB ch text))) := ev_call (ea_cons ha (ea_cons hb ea_nil)) (.inl ⟨ch, text, rfl, h, h1, hl, rfl⟩)
end
end Sw
/-! part SxC -/
set_option Elab.async false
set_option linter.all false
set_option maxRecDepth 100000
set_option maxHeartbeats 4000000
namespace Sw
open PySem PySem.Spec L2 PyProof.Rows
/-! ## sorted(set of texts) -/
def leS (a b : Str) : Bool := decide (a.cps.toList ≤ b.cps.toList)
def srtS (l : List Str) : List Str := l.mergeSort leS
theorem leS_trans (a b c : Str) (h1 : leS a b = true) (h2 : leS b c = true) : leS a c = true := decide_eq_true (List.le_trans (of_decide_eq_true h1) (of_decide_eq_true h2))
theorem leS_total (a b : Str) : (leS a b || leS b a) = true := by
  rcases List.le_total a.cps.toList b.cps.toList with h | h
  · rw [show leS a b = true from decide_eq_true h]; rfl
  · rw [show leS b a = true from decide_eq_true h, Bool.or_true]
theorem leS_anti {a b : Str} (h1 : leS a b = true) (h2 : leS b a = true) : a = b := by
  have h := List.le_antisymm (of_decide_eq_true h1) (of_decide_eq_true h2)
  rw [tx_of a, tx_of b, h]
theorem srtS_sorted (l : List Str) : (srtS l).Pairwise fun a b => leS a b = true := List.pairwise_mergeSort leS_trans leS_total l
theorem srtS_perm (l : List Str) : (srtS l).Perm l := List.mergeSort_perm l leS
theorem srtS_uniq {l m : List Str} (h : l.Perm m) (hs : l.Pairwise fun a b => leS a b = true) : l = srtS m :=
  List.Perm.eq_of_pairwise (le := fun a b => leS a b = true) (fun a b _ _ h1 h2 => leS_anti h1 h2) hs (srtS_sorted m) (h.trans (srtS_perm m).symm)
theorem srtS_eq {l m : List Str} (h : l.Perm m) : srtS l = srtS m := srtS_uniq ((srtS_perm l).trans h) (srtS_sorted l)
/-- the same members, as many, each once: the same list in another order -/
theorem nd_perm {α : Type} [DecidableEq α] : ∀ {l m : List α}, l.Nodup → (∀ x ∈ l, x ∈ m) → l.length = m.length → l.Perm m
  | [], m, _, _, h => by rw [List.length_eq_zero_iff.mp h.symm]
  | x :: l, m, hn, hs, h => by
    obtain ⟨h1, h2⟩ := List.nodup_cons.mp hn
    have hx := hs x List.mem_cons_self
    have p := List.perm_cons_erase hx
    refine (List.Perm.cons x (nd_perm h2 (fun y hy => ?_) ?_)).trans p.symm
    · exact (List.mem_erase_of_ne (fun z => h1 (by rw [← z]; exact hy))).mpr (hs y (List.mem_cons_of_mem _ hy))
    · have := List.length_erase_of_mem hx
      rw [List.length_cons] at h
      omega
theorem ddp_nd : ∀ (n : Nat) (ys : List Str), ys.length = n → (ddp ys).Nodup
  | 0, ys, h => by rw [List.length_eq_zero_iff.mp h]; exact List.nodup_nil
  | n + 1, ys, h => by
    have hne : ys ≠ [] := fun z => by rw [z] at h; cases h
    have e : ys = ys.dropLast ++ [ys.getLast hne] := (List.dropLast_concat_getLast hne).symm
    have ih := ddp_nd n ys.dropLast (by rw [List.length_dropLast]; omega)
    rw [e, ddp_snoc]
    unfold PyProof.Rows.step_dedup
    split
    · exact ih
    · rename_i hz
      rw [List.nodup_append]
      refine ⟨ih, by simp, fun a ha b hb => ?_⟩
      rw [List.mem_singleton.mp hb]
      intro q
      exact hz (List.any_eq_true.mpr ⟨a, ha, by rw [q]; simp⟩)
def txtOf : Value → Str
  | .str k _ => k
  | _ => tx []
section
variable {P : Program} {w : World} {A : Around} {E : Value → Shared → Prop} {s : Shared} {a : Addr} {S : Str → Bool} {n : Nat}
theorem each_txt : ∀ {vs : List Value}, (∀ v ∈ vs, ∃ k t, v = Value.str k t) → PySem.W.EachIs (fun (v : Value) (k : Str) => ∃ t, v = .str k t) vs (vs.map txtOf)
  | [], _ => .nil
  | v :: vs, h => by
    obtain ⟨k, t, rfl⟩ := h v List.mem_cons_self
    exact .cons ⟨t, rfl⟩ (each_txt fun u hu => h u (List.mem_cons_of_mem _ hu))
theorem each_len {α β : Type} {R : α → β → Prop} : ∀ {l : List α} {m : List β}, PySem.W.EachIs R l m → l.length = m.length
  | _, _, .nil => rfl
  | _, _, .cons _ t => by rw [List.length_cons, List.length_cons, each_len t]
theorem each_mono {α β : Type} {R R' : α → β → Prop} (h : ∀ a b, R a b → R' a b) : ∀ {l : List α} {m : List β}, PySem.W.EachIs R l m → PySem.W.EachIs R' l m
  | _, _, .nil => .nil
  | _, _, .cons h1 t => .cons (h _ _ h1) (each_mono h t)
theorem sorted_setX {l : List Str} {Q : Value → Shared → Prop} (R : SetX P w s.heap a S n) (hh : A.handled = none) (hu : A.units + 3 < cLine) (hl : l.Nodup) (hm : ∀ k, S k = true ↔ k ∈ l) (hn : n = l.length)
    (hQ : ∀ s' p (out : List Value) (c : Nat), (∀ b o, s.heap.get? b = some o → s'.heap.get? b = some o) → s'.gens = s.gens → s'.os = s.os → s.heap.objs.size ≤ p →
      s'.heap.get? p = some (seqObj "list" out.toArray c) → PySem.W.EachIs (fun (v : Value) (k : Str) => ∃ t, v = .str k t) out (srtS l) → Q (.ref p) s') :
    wpAny (model P w) A (call (.builtin "sorted") [.ref a]) Q E s := by
  obtain ⟨o, es, ep, t, ho, hex, hd, hel, hmem, hb, hf, hn2, hr, hl2⟩ := R
  refine Calls.call_function_entry kind_sorted plain_sorted entry_sorted (args_sorted1 _) ?_
  unfold Builtin.«sorted»
  refine wpAny_bind (m := checkCount "sorted" 1 1 _) (wpAny_pure ?_)
  refine wpAny_bind (collect_set (A := A.in1) hh ⟨o, ho, hex.1, hd⟩ hf hb hr hl2 fun s1 vs k1 hz g1 o1 pm => ?_)
  have hvl : vs.length = n := by rw [pm.length_eq, List.length_map, Array.length_toList]; exact hn2
  have hst : ∀ v ∈ vs, ∃ k t, v = Value.str k t := fun v hv => by
    obtain ⟨e, he, q⟩ := List.mem_map.mp (pm.mem_iff.mp hv)
    obtain ⟨⟨k, hk, _⟩, _⟩ := hel e he
    have hk : Value.isStrOf k e.2 = true := hk
    rw [← q]
    cases h2 : e.2 with
    | str y t => exact ⟨y, t, rfl⟩
    | _ => rw [h2] at hk; simp [Value.isStrOf] at hk
  have hpm : l.Perm (vs.map txtOf) := by
    refine nd_perm hl (fun k hk => ?_) (by rw [List.length_map, hvl, hn])
    obtain ⟨e, he, q⟩ := (hmem k).mp ((hm k).mpr hk)
    have hv : e.2 ∈ vs := pm.mem_iff.mpr (List.mem_map.mpr ⟨e, he, rfl⟩)
    refine List.mem_map.mpr ⟨e.2, hv, ?_⟩
    obtain ⟨y, t, h2⟩ := hst _ hv
    have q : Value.isStrOf k e.2 = true := q
    rw [h2] at q ⊢
    have : y = k := by simpa [Value.isStrOf] using q
    exact this
  have hsz : vs.length ≤ sizeLine := by rw [hvl, ← hn2]; exact fits_of_scanBound hb
  refine wpAny_bind (wpAny_newList ?_ hsz)
  have hoL : (s1.heap.push (seqObj "list" vs.toArray 0)).get? s1.heap.objs.size = some (seqObj "list" vs.toArray 0) := Heap.get?_push_size _ rfl
  have hE := each_txt hst
  refine wpAny_bind (wpAny_holding ?_)
  refine PySem.W.list_sort_data (s := { s1 with heap := s1.heap.push (seqObj "list" vs.toArray 0) }) (enc := fun k : Str => PyData.str k) hoL hE (each_mono (fun v k ⟨t, e⟩ => ⟨[], by rw [e]; exact .str _ _, fun z => by cases z⟩) hE) (PySem.W.AllAlike.of fun b b' => rfl) (PySem.W.Sortable.others fun b => ⟨(fun z => by cases z), fun xs z => by cases z⟩) (by rw [List.length_map]; exact hsz) (fun b _ => ?_) fun out hlen eo => ?_
  · show A.in1.units + 1 + (PyData.str b).depth < cLine
    rw [show (PyData.str b).depth = 0 by simp [PyData.depth]]
    have : A.in1.units = A.units + 1 := by first | rfl | simp
    omega
  · obtain ⟨c, hc⟩ := sortedHeap_at (vs := vs) (out := out.toArray) hoL
    have e2 : (vs.map txtOf).mergeSort (PySem.W.dataLe false fun k : Str => PyData.str k) = srtS l := by
      rw [PySem.W.dataLe_str (fun k : Str => k)]
      exact (srtS_eq hpm).symm
    rw [e2] at eo
    refine wpAny_pure ⟨_, rfl, hQ _ s1.heap.objs.size out c (fun b u e => ?_) g1 o1 hz hc eo⟩
    have q := k1 b u e
    have hlt := Heap.lt_size q
    show (sortedHeap (s1.heap.push (seqObj "list" vs.toArray 0)) s1.heap.objs.size vs out.toArray).get? b = some u
    rw [sortedHeap_old (Nat.ne_of_lt hlt) (by rw [size_push']; exact Nat.lt_succ_of_lt hlt)]
    exact Heap.get?_push_of_some _ q
end
def rSortT (w : World) : List V → Hp → VK → Prop := fun vs H Q => ∃ (a : Addr) (ys : List Str), vs = [V.ref a] ∧ H a = some (SetT w a ys) ∧ ys.length ≤ sizeLine ∧
  ∀ (p : Addr), H p = none → Q (.ref p) (upd H p (.lst ((srtS (ddp ys)).map V.str)))
theorem vals_eachT : ∀ {vs : List Value} {ks : List Str}, PySem.W.EachIs (fun (v : Value) (k : Str) => ∃ t, v = .str k t) vs ks → Vals (ks.map V.str) vs
  | _, _, .nil => .nil
  | _, _, .cons h1 t => .cons h1 (vals_eachT t)
theorem cr_sortT {X : Cx} {k : Nat} (hc : X.calm = true) (hr : Room k X.A) : CallR X (.builtin "sorted") (rSortT X.w) := by
  intro pins s σ H vs us Q I r h
  obtain ⟨a, ys, rfl, ha, hz, q⟩ := h
  obtain ⟨P, R⟩ := (I.hok a _ ha).1
  have R : SetX X.prog X.w s.heap a (fun z => (ddp ys).any (· == z)) (ddp ys).length := R
  rw [Vals.ref1 r]
  have hu := hr.units
  refine sorted_setX R (I.ok.hd hc) (by omega) (ddp_nd _ ys rfl) (fun k => ?_) rfl fun s' p out c k g o hp hg hE => ?_
  · rw [List.any_eq_true]
    exact ⟨fun ⟨x, hx, e⟩ => by rw [← (show x = k by simpa using e)]; exact hx, fun z => ⟨k, z, by simp⟩⟩
  · have hlen : ((srtS (ddp ys)).map V.str).length ≤ sizeLine := by
      rw [List.length_map, (srtS_perm _).length_eq]
      exact Nat.le_trans (ddp_le _ ys rfl) hz
    have hn : H p = none := I.hok.fresh hp
    have J : Inv X pins σ (upd H p (.lst ((srtS (ddp ys)).map V.str))) { s with heap := s'.heap, gens := s'.gens, drawn := s'.drawn, toks := s'.toks } :=
      I.call (ch := []) (Un.laid k hp hn) (I.hok.laid k hp ⟨hlen, out, c, vals_eachT hE, hg⟩) (by rw [g]; exact I.bare) (fun _ z => nomatch z)
    have e : s' = { s with heap := s'.heap, gens := s'.gens, drawn := s'.drawn, toks := s'.toks } := by
      cases s'
      cases s
      cases o
      rfl
    rw [e]
    exact ⟨.ref p, _, J, rfl, q p hn⟩
/-! over data -/
def srtT (l : List (List Nat)) : List (List Nat) := l.mergeSort fun a b => decide (a ≤ b)
theorem srtT_sorted (l : List (List Nat)) : (srtT l).Pairwise fun a b => a ≤ b :=
  (List.pairwise_mergeSort (le := fun a b : List Nat => decide (a ≤ b)) (fun a b c h1 h2 => decide_eq_true (List.le_trans (of_decide_eq_true h1) (of_decide_eq_true h2))) (fun a b => by
    rcases List.le_total a b with h | h
    · rw [decide_eq_true h]; rfl
    · rw [decide_eq_true h, Bool.or_true]) l).imp fun h => of_decide_eq_true h
theorem srtT_perm (l : List (List Nat)) : (srtT l).Perm l := List.mergeSort_perm l _
theorem srtT_uniq {l m : List (List Nat)} (h : l.Perm m) (hs : l.Pairwise fun a b => a ≤ b) : l = srtT m :=
  List.Perm.eq_of_pairwise (le := fun a b : List Nat => a ≤ b) (fun a b _ _ h1 h2 => List.le_antisymm h1 h2) hs (srtT_sorted m) (h.trans (srtT_perm m).symm)
theorem srtT_eq {l m : List (List Nat)} (h : l.Perm m) : srtT l = srtT m := srtT_uniq ((srtT_perm l).trans h) (srtT_sorted l)
/-- each text once -/
def dd (l : List (List Nat)) : List (List Nat) := (ddp (l.map tx)).map fun z => z.cps.toList
theorem dd_tx (l : List (List Nat)) : (dd l).map tx = ddp (l.map tx) := by
  unfold dd
  rw [List.map_map]
  conv => rhs; rw [← List.map_id (ddp (l.map tx))]
  exact List.map_congr_left fun z _ => (tx_of z).symm
theorem dd_mem {l : List (List Nat)} {a : List Nat} : a ∈ dd l ↔ a ∈ l := by
  have h1 : a ∈ dd l ↔ tx a ∈ ddp (l.map tx) := by
    rw [← dd_tx]
    exact ⟨fun h => List.mem_map_of_mem h, fun h => by
      obtain ⟨b, hb, e⟩ := List.mem_map.mp h
      rw [← tx_inj e]; exact hb⟩
  rw [h1, ddp_mem _ _ rfl]
  exact ⟨fun h => by
    obtain ⟨b, hb, e⟩ := List.mem_map.mp h
    rw [← tx_inj e]; exact hb, fun h => List.mem_map_of_mem h⟩
theorem dd_nd (l : List (List Nat)) : (dd l).Nodup := by
  rw [← tx_nodup, dd_tx]
  exact ddp_nd _ _ rfl
theorem dd_eq {l m : List (List Nat)} (h : ∀ a, a ∈ l ↔ a ∈ m) : (dd l).Perm (dd m) := by
  refine nd_perm (dd_nd l) (fun x hx => dd_mem.mpr ((h x).mp (dd_mem.mp hx))) (Nat.le_antisymm ?_ ?_)
  · exact nd_le _ _ (dd_nd l) fun x hx => dd_mem.mpr ((h x).mp (dd_mem.mp hx))
  · exact nd_le _ _ (dd_nd m) fun x hx => dd_mem.mpr ((h x).mpr (dd_mem.mp hx))
theorem dd_self {l : List (List Nat)} (h : l.Nodup) : (dd l).Perm l := by
  refine nd_perm (dd_nd l) (fun x hx => dd_mem.mp hx) (Nat.le_antisymm ?_ ?_)
  · exact nd_le _ _ (dd_nd l) fun x hx => dd_mem.mp hx
  · exact nd_le _ _ h fun x hx => dd_mem.mpr hx
theorem srtS_tx (l : List (List Nat)) : srtS (l.map tx) = (srtT l).map tx := by
  unfold srtS srtT
  exact (List.map_mergeSort (r := fun a b : List Nat => decide (a ≤ b)) (s := leS) (f := tx) (l := l) fun a _ b _ => rfl).symm
/-- sorted(set(e)) -/
theorem ev_sortSet {K : PySem.W.Frag} {w : World} {τ : Tau} {te : TE} {ys : List (List Nat)} (h : EvS K te τ (.list (ys.map T))) (hz : ys.length < 4000) :
    EvX K (tCB (rSortT w) (tCons (tCB (rSetOfL w) (tCons te tNil)) tNil)) τ (.ls ((srtT (dd ys)).map T)) := fun σ B H hs e Q q =>
  h σ B H hs e _ fun v B1 H1 s1 d1 => by
    have d1 : Dd K B1 v (.list (ys.map T)) := d1
    cases d1 with
    | lst g1 a1 =>
      have z := dps_strs a1
      subst z
      refine ⟨_, ys.map tx, rfl, s1.i _ _ g1, by rw [List.length_map]; unfold scanBound; omega, fun p hp => ?_⟩
      have so : Step B1 H1 B1 (upd H1 p (SetT w p (ys.map tx))) := Step.own s1.i hp
      refine ⟨p, ys.map tx, rfl, upd_same, by rw [List.length_map]; have := szl; omega, fun p2 hp2 => ?_⟩
      rw [← dd_tx, srtS_tx]
      have so2 : Step B1 _ B1 (upd (upd H1 p (SetT w p (ys.map tx))) p2 (.lst (((srtT (dd ys)).map tx).map V.str))) := Step.own so.i hp2
      refine q _ B1 _ ((s1.trans so).trans so2) ⟨p2, _, rfl, Same.free (s1.h.trans so.h) hp2, upd_same, Same.free so.i hp2, _, rfl, ?_⟩
      exact dds_strs' _
where
  dds_strs' {K : PySem.W.Frag} {B : Hp} : ∀ (ys : List (List Nat)), DdAll K B ((ys.map tx).map V.str) (ys.map T)
    | [] => .nil
    | y :: ys => .cons (.str _) (dds_strs' ys)
end Sw
/-! part SxD -/
set_option Elab.async false
set_option linter.all false
set_option maxRecDepth 100000
set_option maxHeartbeats 4000000
namespace Sw
open PySem PySem.Spec L2
/-! ## list.count, list.index, max and min of a list -/
def rCountD (K : PySem.W.Frag) : V → List V → Hp → VK → Prop := fun x vs H Q => ∃ (a : Addr) (y : V) (d : PyData) (xs : List PyData), x = .ref a ∧ vs = [y] ∧ Dp K H (.ref a) (.list xs) ∧ Dp K H y d ∧ PySem.PyData.plainAll xs = true ∧ PySem.PyData.plain d = true ∧ d.depth ≤ 32 ∧ Q (.int (xs.countP fun z => PyData.eqv z d : Nat)) H
theorem mt_countD {X : Cx} {k : Nat} (hr : Room k X.A) : MtR X "list.count" (rCountD X.K) := by
  intro pins s σ H x xs v us Q I rx rxs h
  obtain ⟨a, y, d, ds, rfl, rfl, hl, hy, p1, p2, p3, q⟩ := h
  have hu := hr.units
  cases rx
  obtain ⟨u, rfl, ru⟩ := rxs.one
  obtain ⟨bs, r1⟩ := Dp.reads I d y u hy ru
  cases hl with
  | lst hs ha =>
    obtain ⟨its, rv, hli, hlen⟩ := I.list hs
    obtain ⟨as, h4⟩ := Dp.readsAll I ds _ its ha rv
    have hm : X.A.units + 1 + min (PyData.depthAll ds) d.depth < cLine := by have : min (PyData.depthAll ds) d.depth ≤ d.depth := Nat.min_le_right _ _; omega
    exact PySem.SeqAt.count_list_data hli.isList h4 r1 p1 p2 hm ⟨.int _, H, I.tok _, ⟨_, rfl⟩, q⟩
theorem mt_indexR {X : Cx} {k : Nat} (hr : Room k X.A) : MtR X "list.index" (rIndexD X.K) := mt_indexD (by have := hr.un; omega)
section
variable {K : PySem.W.Frag} {τ : Tau} {te tb : TE}
theorem ev_count {xs : List PyData} {d : PyData} {n m : Nat} (h : EvS K te τ (.list xs)) (h2 : EvS K tb τ d) (hd : Sh n d) (hn : n ≤ 32) (hx : ∀ x ∈ xs, Sh m x) : EvX K (tBM K "list" (rCountD K) te (tCons tb tNil)) τ (.dt (.int (xs.countP fun z => PyData.eqv z d : Nat))) := fun σ B H hs e Q q =>
  h σ B H hs e _ fun v B1 H1 s1 d1 => by
    have d1 : Dd K B1 v (.list xs) := d1
    have hcl : (PyData.list xs).canLay0 = true := by simpa only [PyData.canLay0] using sh_alls hx
    cases d1 with
    | lst g1 a1 =>
      refine ⟨.inl ⟨rfl, _, SqL.of (s1.i _ _ g1)⟩, ?_⟩
      refine h2 σ B1 H1 (hs.same s1.b) s1.i _ fun v2 B2 H2 s2 d2 => ?_
      have e2 : Same B1 H2 := s2.b.trans s2.i
      exact ⟨_, v2, d, xs, rfl, rfl, dd_dp _ _ hcl (dp_same e2 _ _ (.lst g1 a1)), dd_dp _ _ hd.1 (dp_same s2.i _ _ d2), lay_plains _ (sh_alls hx), lay_plain _ hd.1, Nat.le_trans hd.2 hn, q _ B2 H2 (s1.trans s2) (.int _)⟩
theorem countT {l : List (List Nat)} {a : List Nat} : (l.map T).countP (fun z => PyData.eqv z (T a)) = l.count a := by
  rw [List.countP_map, List.count]
  refine List.countP_congr fun x _ => ?_
  show (PyData.eqv (T x) (T a) = true) ↔ (x == a) = true
  rw [beq_iff_eq]
  constructor
  · intro h
    have h : tx x = tx a := by simpa [PyData.eqv] using h
    exact tx_inj h
  · intro h; rw [h]; simp [PyData.eqv]
/-- the place of the first x -/
theorem ev_indexI {ns : List Int} {i : Int} (h : EvS K te τ (.list (ns.map PyData.int))) (h2 : EvS K tb τ (.int i)) (hi : i ∈ ns) : EvX K (tBM K "list" (rIndexD K) te (tCons tb tNil)) τ (.dt (.int (ns.idxOf i : Nat))) := fun σ B H hs e Q q =>
  h σ B H hs e _ fun v B1 H1 s1 d1 => by
    have d1 : Dd K B1 v (.list (ns.map PyData.int)) := d1
    have hsh : Sh 2 (.list (ns.map PyData.int)) := sh_list fun d hd => by
      obtain ⟨n, _, rfl⟩ := List.mem_map.mp hd
      exact sh_int
    cases d1 with
    | lst g1 a1 =>
      refine ⟨.inl ⟨rfl, _, SqL.of (s1.i _ _ g1)⟩, ?_⟩
      refine h2 σ B1 H1 (hs.same s1.b) s1.i _ fun v2 B2 H2 s2 d2 => ?_
      have e2 : Same B1 H2 := s2.b.trans s2.i
      have hl := List.idxOf_lt_length_iff.mpr hi
      refine ⟨_, v2, .int i, ns.map PyData.int, ns.idxOf i, .int i, rfl, rfl, dd_dp _ _ hsh.1 (dp_same e2 _ _ (.lst g1 a1)), dd_dp _ _ sh_int.1 (dp_same s2.i _ _ d2), hsh.ok (by decide), sh_int.ok (by decide), ?_, by simp [PyData.eqv], fun m z' hm hz => ?_, q _ B2 H2 (s1.trans s2) (.int _)⟩
      · rw [List.getElem?_map, List.getElem?_eq_getElem hl, List.getElem_idxOf hl]; rfl
      · rw [List.getElem?_map] at hz
        cases hz2 : ns[m]? with
        | none => rw [hz2] at hz; cases hz
        | some y =>
          rw [hz2] at hz
          cases hz
          have hml := (List.getElem?_eq_some_iff.mp hz2).1
          have hne : y ≠ i := fun z => by
            have := List.not_of_lt_findIdx (p := (· == i)) (xs := ns) (i := m) hm
            rw [(List.getElem?_eq_some_iff.mp hz2).2, z] at this
            simp at this
          show ((y == i) = false)
          exact beq_eq_false_iff_ne.mpr hne
/-- max and min of ints -/
theorem dps_ints {B : Hp} : ∀ {ns : List Int} {vs : List V}, DdAll K B vs (ns.map PyData.int) → vs = ns.map V.int
  | [], _, h => by cases h; rfl
  | n :: ns, _, h => by
    cases h with
    | cons h1 h2 =>
      cases h1
      rw [dps_ints h2]; rfl
def maxI (ns : List Int) : Int := ns.foldl max (ns.headD 0)
def minI (ns : List Int) : Int := ns.foldl min (ns.headD 0)
theorem cd_max {ns : List Int} {m : Int} (hm : m ∈ ns) (hx : ∀ y ∈ ns, y ≤ m) : CbD K (rMax K) [.list (ns.map PyData.int)] (.dt (.int m)) := fun B H vs e hv Q q => by
  cases hv with
  | cons h1 h2 =>
    cases h2
    cases h1 with
    | lst g1 a1 =>
      have z := dps_ints a1
      subst z
      refine ⟨_, ns, rfl, SqL.of (e _ _ g1), List.length_pos_of_mem hm, fun m' h1 h2 => ?_⟩
      have : m' = m := Int.le_antisymm (hx m' h1) (h2 m hm)
      rw [this]
      exact q _ B H (Step.refl e) (.int _)
theorem cd_min {ns : List Int} {m : Int} (hm : m ∈ ns) (hx : ∀ y ∈ ns, m ≤ y) : CbD K (rMin K) [.list (ns.map PyData.int)] (.dt (.int m)) := fun B H vs e hv Q q => by
  cases hv with
  | cons h1 h2 =>
    cases h2
    cases h1 with
    | lst g1 a1 =>
      have z := dps_ints a1
      subst z
      refine ⟨_, ns, rfl, SqL.of (e _ _ g1), List.length_pos_of_mem hm, fun m' h1 h2 => ?_⟩
      have : m' = m := Int.le_antisymm (h2 m hm) (hx m' h1)
      rw [this]
      exact q _ B H (Step.refl e) (.int _)
end
/-- the greatest of numbers -/
def maxN : List Nat → Nat
  | [] => 0
  | a :: l => max a (maxN l)
theorem maxN_le : ∀ {l : List Nat} {x : Nat}, x ∈ l → x ≤ maxN l
  | a :: l, x, h => by
    rw [maxN]
    rcases List.mem_cons.mp h with e | h
    · rw [e]; exact Nat.le_max_left _ _
    · exact Nat.le_trans (maxN_le h) (Nat.le_max_right _ _)
theorem maxN_mem : ∀ {l : List Nat}, l ≠ [] → maxN l ∈ l
  | [a], _ => by rw [maxN, maxN, Nat.max_zero]; exact List.mem_cons_self
  | a :: b :: l, _ => by
    have ih := maxN_mem (l := b :: l) (by simp)
    rw [maxN]
    rcases Nat.le_total a (maxN (b :: l)) with h | h
    · rw [Nat.max_eq_right h]; exact List.mem_cons_of_mem _ ih
    · rw [Nat.max_eq_left h]; exact List.mem_cons_self
def minN : List Nat → Nat
  | [] => 0
  | [a] => a
  | a :: b :: l => min a (minN (b :: l))
theorem minN_le : ∀ {l : List Nat} {x : Nat}, x ∈ l → minN l ≤ x
  | [a], x, h => by rw [minN, List.mem_singleton.mp h]; exact Nat.le_refl _
  | a :: b :: l, x, h => by
    rw [minN]
    rcases List.mem_cons.mp h with e | h
    · rw [e]; exact Nat.min_le_left _ _
    · exact Nat.le_trans (Nat.min_le_right _ _) (minN_le h)
theorem minN_mem : ∀ {l : List Nat}, l ≠ [] → minN l ∈ l
  | [a], _ => by rw [minN]; exact List.mem_cons_self
  | a :: b :: l, _ => by
    have ih := minN_mem (l := b :: l) (by simp)
    rw [minN]
    rcases Nat.le_total a (minN (b :: l)) with h | h
    · rw [Nat.min_eq_left h]; exact List.mem_cons_self
    · rw [Nat.min_eq_right h]; exact List.mem_cons_of_mem _ ih
theorem nat_ints (l : List Nat) : (l.map fun (n : Nat) => PyData.int (n : Int)) = (l.map fun (n : Nat) => (n : Int)).map PyData.int := by rw [List.map_map]; rfl
theorem cd_maxN {K : PySem.W.Frag} {l : List Nat} (h : l ≠ []) : CbD K (rMax K) [.list (l.map fun (n : Nat) => PyData.int (n : Int))] (.dt (.int (maxN l : Nat))) := by
  rw [nat_ints]
  exact cd_max (List.mem_map.mpr ⟨_, maxN_mem h, rfl⟩) fun y hy => by
    obtain ⟨n, hn, rfl⟩ := List.mem_map.mp hy
    have := maxN_le hn
    omega
theorem cd_minN {K : PySem.W.Frag} {l : List Nat} (h : l ≠ []) : CbD K (rMin K) [.list (l.map fun (n : Nat) => PyData.int (n : Int))] (.dt (.int (minN l : Nat))) := by
  rw [nat_ints]
  exact cd_min (List.mem_map.mpr ⟨_, minN_mem h, rfl⟩) fun y hy => by
    obtain ⟨n, hn, rfl⟩ := List.mem_map.mp hy
    have := minN_le hn
    omega
theorem ev_indexN {K : PySem.W.Frag} {τ : Tau} {te tb : TE} {l : List Nat} {n : Nat} (h : EvS K te τ (.list (l.map fun (n : Nat) => PyData.int (n : Int)))) (h2 : EvS K tb τ (.int (n : Int))) (hn : n ∈ l) : EvX K (tBM K "list" (rIndexD K) te (tCons tb tNil)) τ (.dt (.int (l.idxOf n : Nat))) := by
  rw [nat_ints] at h
  have := ev_indexI h h2 (List.mem_map.mpr ⟨n, hn, rfl⟩)
  have e : (l.map fun (n : Nat) => (n : Int)).idxOf (n : Int) = l.idxOf n := by
    clear this h hn
    induction l with
    | nil => rfl
    | cons a l ih =>
      rw [List.map_cons, List.idxOf_cons, List.idxOf_cons, ih]
      have : ((a : Int) == (n : Int)) = (a == n) := by
        rw [Bool.eq_iff_iff, beq_iff_eq, beq_iff_eq]; omega
      rw [this]
  rw [e] at this
  exact this
end Sw
/-! part SxA -/
set_option Elab.async false
set_option linter.all false
set_option maxRecDepth 100000
set_option maxHeartbeats 4000000
namespace Sw
open PySem PySem.Spec L2
/-! ## mathematics of choices -/
theorem onc_congr {c1 c2 : List RP} (h : ∀ t, hit c1 t = hit c2 t) : ∀ (k : Nat) (t : List Nat), onc c1 k t = onc c2 k t
  | k, [] => by rw [onc_nil, onc_nil]
  | k + 1, c :: r => by rw [onc, onc]; exact onc_congr h k r
  | 0, c :: r => by
    rw [onc, onc, h]
    cases hit c2 (c :: r) with
    | none => show c :: _ = c :: _; rw [onc_congr h 0 r]
    | some s => show s.2 ++ _ = s.2 ++ _; rw [onc_congr h _ r]
theorem onc_one (s : RP) : ∀ (k : Nat) (t : List Nat), onc [s] k t = rsl s.1 s.2 k t
  | k, [] => by rw [onc_nil]; cases k <;> rfl
  | k + 1, c :: r => by rw [onc, rsl]; exact onc_one s k r
  | 0, c :: r => by
    rw [onc, rsl]
    unfold hit
    rw [List.find?_cons]
    cases h : s.1.isPrefixOf (c :: r) with
    | true =>
      show s.2 ++ onc [s] (s.1.length - 1) r = s.2 ++ _
      rw [onc_one s _ r]
    | false =>
      show c :: onc [s] 0 r = c :: _
      rw [onc_one s 0 r]
theorem once_one (s : RP) (t : List Nat) : once [s] t = result s.1 s.2 t := onc_one s 0 t
theorem tfirst_all {p : List Nat → Bool} {n : Nat} (h : ∀ t, abc t → p t = false) : tfirst p n = none := by
  unfold tfirst
  rw [List.find?_eq_none]
  intro t ht
  rw [h t (txs_mem.mp ht).1]; exact Bool.false_ne_true
theorem tfirst_some {p : List Nat → Bool} {n : Nat} {t : List Nat} (h : tfirst p n = some t) : abc t ∧ t.length ≤ n ∧ p t = true := by
  have h1 := txs_mem.mp (List.mem_of_find?_eq_some h)
  exact ⟨h1.1, h1.2, List.find?_some h⟩
theorem tfirst_not {p : List Nat → Bool} {n : Nat} {t : List Nat} (h : tfirst p n = none) (ha : abc t) (hl : t.length ≤ n) : p t = false := by
  unfold tfirst at h
  rw [List.find?_eq_none] at h
  have := h t (txs_mem.mpr ⟨ha, hl⟩)
  simpa using this
theorem tfirst_mono {p : List Nat → Bool} {m : Nat} {u : List Nat} (h : tfirst p m = some u) : ∀ n, m ≤ n → tfirst p n = some u
  | 0, hn => by
    have : m = 0 := by omega
    subst this; exact h
  | n + 1, hn => by
    by_cases e : m = n + 1
    · subst e; exact h
    · rw [tfirst_succ, tfirst_mono h n (by omega)]; rfl
theorem tfirst_prev {p : List Nat → Bool} {n m : Nat} {t : List Nat} (h : tfirst p n = some t) (hm : m < t.length) : tfirst p m = none := by
  cases e : tfirst p m with
  | none => rfl
  | some u =>
    have h1 := tfirst_some e
    have h2 := tfirst_some h
    have := tfirst_mono e n (by omega)
    rw [h] at this
    cases this
    omega
theorem pfx_one (s : RP) : pfx [s] = [] := rfl
theorem ch_one {s : RP} (h : Rp s.1 s.2) : Ch [s] := ⟨⟨by simp, fun x hx => by rw [List.mem_singleton.mp hx]; exact h⟩, by simp, by simp⟩
theorem ch_two {a b : RP} (ha : Rp a.1 a.2) (hb : Rp b.1 b.2) (h : a.1 ≠ b.1) : Ch [a, b] := ⟨⟨by simp, fun x hx => by
  rcases List.mem_cons.mp hx with e | hx
  · rw [e]; exact ha
  · rw [List.mem_singleton.mp hx]; exact hb⟩, by simp, by simpa using h⟩
theorem omB_no {ch : List RP} {t z : List Nat} (h : ∀ o ∈ ords ch, once o t = z) : omB ch t = false := by
  unfold omB
  have h1 := ddp_one (z := tx z) _ ((ords ch).map fun o => tx (once o t)) rfl fun y hy => by
    obtain ⟨o, ho, rfl⟩ := List.mem_map.mp hy
    rw [h o ho]
  exact decide_eq_false (by omega)
theorem omB_yes {ch o1 o2 : List RP} {t : List Nat} (h1 : o1 ∈ ords ch) (h2 : o2 ∈ ords ch) (h : once o1 t ≠ once o2 t) : omB ch t = true := by
  unfold omB
  have h1 := ddp_two (ys := (ords ch).map fun o => tx (once o t)) (List.mem_map.mpr ⟨o1, h1, rfl⟩) (List.mem_map.mpr ⟨o2, h2, rfl⟩) fun z => h (tx_inj z)
  exact decide_eq_true (by omega)
theorem ords_one (a : RP) : ords [a] = [[a]] := by
  rw [ords_eq (by simp)]
  rfl
theorem ords_two (a b : RP) : ords [a, b] = [[a, b], [b, a]] := by
  rw [ords_eq (by simp)]
  show ordI [a, b] 0 ++ (ordI [a, b] 1 ++ []) = _
  unfold ordI
  show (ords [b]).map _ ++ ((ords [a]).map _ ++ []) = _
  rw [ords_one, ords_one]
  rfl
theorem ords_three (a b c : RP) : ords [a, b, c] = [[a, b, c], [a, c, b], [b, a, c], [b, c, a], [c, a, b], [c, b, a]] := by
  rw [ords_eq (by simp)]
  show ordI [a, b, c] 0 ++ (ordI [a, b, c] 1 ++ (ordI [a, b, c] 2 ++ [])) = _
  unfold ordI
  show (ords [b, c]).map _ ++ ((ords [a, c]).map _ ++ ((ords [a, b]).map _ ++ [])) = _
  rw [ords_two, ords_two, ords_two]
  rfl
theorem omB_two (a b : RP) (t : List Nat) : omB [a, b] t = !decide (once [a, b] t = once [b, a] t) := by
  by_cases h : once [a, b] t = once [b, a] t
  · rw [decide_eq_true h]
    refine omB_no (z := once [a, b] t) fun o ho => ?_
    rw [ords_two] at ho
    rcases List.mem_cons.mp ho with e | ho
    · rw [e]
    · rw [List.mem_singleton.mp ho, h]
  · rw [decide_eq_false h]
    refine omB_yes (o1 := [a, b]) (o2 := [b, a]) ?_ ?_ h <;> rw [ords_two] <;> simp
theorem hit_swap {a b : RP} (h1 : ¬ a.1 <+: b.1) (h2 : ¬ b.1 <+: a.1) (t : List Nat) : hit [a, b] t = hit [b, a] t := by
  unfold hit
  rw [List.find?_cons, List.find?_cons, List.find?_cons, List.find?_cons]
  cases ha : a.1.isPrefixOf t with
  | false => cases hb : b.1.isPrefixOf t <;> rfl
  | true =>
    cases hb : b.1.isPrefixOf t with
    | false => rfl
    | true =>
      rcases List.prefix_or_prefix_of_prefix (List.isPrefixOf_iff_prefix.mp ha) (List.isPrefixOf_iff_prefix.mp hb) with z | z
      · exact absurd z h1
      · exact absurd z h2
theorem once_none {ch : List RP} : ∀ {t : List Nat}, (∀ s ∈ ch, ¬ s.1 <:+: t) → once ch t = t
  | [], _ => rfl
  | c :: r, h => by
    have hh : hit ch (c :: r) = none := by
      cases e : hit ch (c :: r) with
      | none => rfl
      | some s => exact absurd (hit_mem e).2.isInfix (h s (hit_mem e).1)
    show onc ch 0 (c :: r) = _
    rw [onc_no hh]
    congr 1
    exact once_none (ch := ch) fun s hs z => h s hs (z.trans (List.suffix_cons c r).isInfix)
theorem pfx_two {a b : RP} (h : a.1 ≠ b.1) : (pfx [a, b] = [] ∧ pfx [b, a] = [] ∧ ¬ a.1 <+: b.1 ∧ ¬ b.1 <+: a.1) ∨ (pfx [a, b] = [(0, 1)] ∧ pfx [b, a] = [(1, 0)]) ∨ (pfx [a, b] = [(1, 0)] ∧ pfx [b, a] = [(0, 1)]) := by
  have e : ∀ x y : RP, pfx [x, y] = (if x.1 <+: y.1 then [(0, 1)] else []) ++ (if y.1 <+: x.1 then [(1, 0)] else []) := fun x y => by
    show pfxI [x, y] 0 ++ (pfxI [x, y] 1 ++ []) = _
    have e0 : pfxB [x, y] 0 0 = false := rfl
    have e1 : pfxB [x, y] 0 1 = decide (x.1 <+: y.1) := rfl
    have e2 : pfxB [x, y] 1 0 = decide (y.1 <+: x.1) := rfl
    have e3 : pfxB [x, y] 1 1 = false := rfl
    unfold pfxI
    show (List.filter (pfxB [x, y] 0) [0, 1]).map _ ++ ((List.filter (pfxB [x, y] 1) [0, 1]).map _ ++ []) = _
    rw [List.filter_cons, List.filter_cons, List.filter_cons, List.filter_cons, e0, e1, e2, e3]
    by_cases h1 : x.1 <+: y.1 <;> by_cases h2 : y.1 <+: x.1 <;> simp [h1, h2]
  rw [e a b, e b a]
  by_cases h1 : a.1 <+: b.1
  · have h2 : ¬ b.1 <+: a.1 := fun z => h (List.Sublist.eq_of_length h1.sublist (Nat.le_antisymm h1.length_le z.length_le))
    exact .inr (.inl (by simp [h1, h2]))
  · by_cases h2 : b.1 <+: a.1
    · exact .inr (.inr (by simp [h1, h2]))
    · exact .inl ⟨by simp [h1, h2], by simp [h1, h2], h1, h2⟩
/-- words of one sign -/
def one1 (ch : List RP) (f : Nat → Nat) : Prop := ∀ c r, (c = 97 ∨ c = 98 ∨ c = 99) → (∃ s, hit ch (c :: r) = some s ∧ s.1.length = 1 ∧ s.2 = [f c]) ∨ (hit ch (c :: r) = none ∧ f c = c)
theorem once_map {ch : List RP} {f : Nat → Nat} (h : one1 ch f) : ∀ {t : List Nat}, abc t → once ch t = t.map f
  | [], _ => rfl
  | c :: r, ha => by
    have ih := once_map h (t := r) fun x hx => ha x (List.mem_cons_of_mem _ hx)
    show onc ch 0 (c :: r) = f c :: r.map f
    rcases h c r (ha c List.mem_cons_self) with ⟨s, e1, e2, e3⟩ | ⟨e1, e2⟩
    · rw [onc_yes e1 (fun z => by rw [z] at e2; cases e2), e2, e3]
      show [f c] ++ onc ch 0 r = _
      rw [show onc ch 0 r = r.map f from ih]
      rfl
    · rw [onc_no e1, show onc ch 0 r = r.map f from ih, e2]

/-- the first text with less than i signs that has a property -/
def tnf (p : List Nat → Bool) : Nat → Option (List Nat)
  | 0 => none
  | i + 1 => tfirst p i
theorem tnf_succ {p : List Nat → Bool} : ∀ i, tnf p (i + 1) = (tnf p i).or ((lv i).find? p)
  | 0 => rfl
  | i + 1 => tfirst_succ
theorem ords_self {ch : List RP} (h : ch.length ≤ 3) : ch ∈ ords ch := by
  match ch, h with
  | [], _ => exact List.mem_cons_self
  | [a], _ => rw [ords_one]; exact List.mem_cons_self
  | [a, b], _ => rw [ords_two]; exact List.mem_cons_self
  | [a, b, c], _ => rw [ords_three]; exact List.mem_cons_self
theorem omB_iff {ch : List RP} {t : List Nat} (h : ch.length ≤ 3) : omB ch t = !((ords ch).filter fun o => !decide (once o t = once ch t)).isEmpty := by
  cases e : (ords ch).filter fun o => !decide (once o t = once ch t) with
  | nil =>
    refine omB_no (z := once ch t) fun o ho => ?_
    rw [List.filter_eq_nil_iff] at e
    have := e o ho
    simpa using this
  | cons o r =>
    have ho : o ∈ (ords ch).filter fun o => !decide (once o t = once ch t) := by rw [e]; exact List.mem_cons_self
    obtain ⟨h1, h2⟩ := List.mem_filter.mp ho
    exact omB_yes h1 (ords_self h) (by simpa using h2)
theorem enum_range (ch : List RP) : enumD (ch.map rpD) = (List.range ch.length).map fun (j : Nat) => PyData.tuple [.int (j : Int), rpD (ch.getD j ([], []))] := by
  apply List.ext_getElem?
  intro i
  by_cases hi : i < ch.length
  · rw [List.getElem?_map, List.getElem?_range hi, enumD_get.mpr ⟨rpD (ch.getD i ([], [])), ?_, rfl⟩]
    · rfl
    · rw [List.getElem?_map, List.getElem?_eq_getElem hi, List.getD_eq_getElem?_getD, List.getElem?_eq_getElem hi]
      rfl
  · rw [List.getElem?_eq_none (by rw [enumD_len, List.length_map]; omega), List.getElem?_eq_none (by rw [List.length_map, List.length_range]; omega)]
theorem anyT {l : List (List Nat)} {a : List Nat} : (l.map T).any (fun z => PyData.eqv z (T a)) = decide (a ∈ l) := by
  rw [Bool.eq_iff_iff, List.any_eq_true, decide_eq_true_eq]
  constructor
  · rintro ⟨x, hx, e⟩
    obtain ⟨y, hy, rfl⟩ := List.mem_map.mp hx
    have e : tx y = tx a := by simpa [PyData.eqv] using e
    rw [← tx_inj e]; exact hy
  · intro h
    exact ⟨T a, List.mem_map.mpr ⟨a, h, rfl⟩, by simp [PyData.eqv]⟩
theorem ud_ng {K : PySem.W.Frag} {i : Int} : UnD K (rU fun i => .int (-i)) (.int i) (.dt (.int (-i))) := fun B H v e hx Q q => by
  cases hx
  exact ⟨i, rfl, q _ B H (Step.refl e) (.int _)⟩
end Sw
/-! part SxE -/
set_option Elab.async false
set_option linter.all false
set_option maxRecDepth 100000
set_option maxHeartbeats 4000000
namespace Sw
open PySem PySem.Spec L2
section
variable {K : PySem.W.Frag} {τ : List SD} {E : DEnds} {ta tb : TE} {s1 s2 : SD} {i j : Nat}
/-- a, b = x, y by way of a tuple; what is new stays one's own -/
theorem ws_asg2 (h1 : EvX K ta (dv τ) s1) (h2 : EvX K tb (dv τ) s2) (k : E.nx ((τ.set i s1).set j s2)) : WS K (tAsg (tTup (tCons ta (tCons tb tNil))) (gTup K 2 (gCons (gName i) (gCons (gName j) gNil)))) τ E := fun B0 H0 D σ H ⟨B, S⟩ A => by
  show ta σ H fun v H1 => tb σ H1 fun u H2 => (2 ≤ sizeLine ∧ ∀ p, H2 p = none → gTup K 2 (gCons (gName i) (gCons (gName j) gNil)) (.ref p) σ (upd H2 p (.tup [v, u])) D.nx)
  refine S.ev h1 fun v B1 H1 S1 e1 w1 => h2 σ B1 H1 S1.slD S1.st.i _ fun u B2 H2 st2 w2 => ⟨by decide, fun p hp => ?_⟩
  have T1 : StB K B0 H0 B1 (τ.set i s1) (σ.set i (some v)) H1 := S1.putN S w1
  have T2 : StB K B0 H0 B2 ((τ.set i s1).set j s2) ((σ.set i (some v)).set j (some u)) H2 := (T1.step st2).putN T1 w2
  have T3 := T2.step (Step.own (o := .tup [v, u]) st2.i hp)
  exact ⟨p, [v, u], rfl, .inl (.inl upd_same), rfl, v, [u], rfl, u, [], rfl, rfl, A.nx _ _ _ k ⟨_, T3⟩⟩
end
theorem maxN_of : ∀ {l : List Nat} {k : Nat}, (∀ x ∈ l, x ≤ k) → maxN l ≤ k
  | [], _, _ => Nat.zero_le _
  | a :: l, k, h => by
    rw [maxN]
    exact Nat.max_le.mpr ⟨h a List.mem_cons_self, maxN_of fun x hx => h x (List.mem_cons_of_mem _ hx)⟩
theorem maxN_congr {l m : List Nat} (h : ∀ x, x ∈ l ↔ x ∈ m) : maxN l = maxN m :=
  Nat.le_antisymm (maxN_of fun x hx => maxN_le ((h x).mp hx)) (maxN_of fun x hx => maxN_le ((h x).mpr hx))
/-! pairs of texts in order -/
def leR (a b : RP) : Bool := decide (a.1 < b.1 ∨ (a.1 = b.1 ∧ a.2 ≤ b.2))
theorem leR_anti {a b : RP} (h1 : leR a b = true) (h2 : leR b a = true) : a = b := by
  have h1 := of_decide_eq_true h1
  have h2 := of_decide_eq_true h2
  have irr : ∀ x : List Nat, ¬ x < x := fun x => List.lt_irrefl x
  rcases h1 with h1 | ⟨e1, g1⟩
  · rcases h2 with h2 | ⟨e2, g2⟩
    · exact absurd (List.lt_trans h1 h2) (irr _)
    · rw [e2] at h1; exact absurd h1 (irr _)
  · rcases h2 with h2 | ⟨e2, g2⟩
    · rw [e1] at h2; exact absurd h2 (irr _)
    · exact Prod.ext e1 (List.le_antisymm g1 g2)
theorem dataLe_rp : PySem.W.dataLe false rpD = leR := by
  funext a b
  show (!PySem.W.dataLt (rpD b) (rpD a)) = leR a b
  show (!PySem.W.dataLt (.tuple [T b.1, T b.2]) (.tuple [T a.1, T a.2])) = leR a b
  rw [PySem.W.dataLt_pair (by rfl) (by rfl), PySem.W.dataLt_str, PySem.W.dataLt_str, tx_list, tx_list, tx_list, tx_list]
  have e : ∀ x y : List Nat, (PyData.eqv (T x) (T y) = true) ↔ x = y := fun x y => by
    constructor
    · intro h
      have h : tx x = tx y := by simpa [PyData.eqv] using h
      exact tx_inj h
    · intro h; rw [h]; simp [PyData.eqv]
  unfold leR
  by_cases h1 : b.1 = a.1
  · rw [if_pos ((e _ _).mpr h1)]
    by_cases h2 : b.2 = a.2
    · rw [if_pos ((e _ _).mpr h2), h1, h2]
      simp [List.le_refl]
    · rw [if_neg (fun z => h2 ((e _ _).mp z)), PySem.W.not_lt_str, h1]
      have : ¬ a.1 < a.1 := List.lt_irrefl _
      simp [this]
  · rw [if_neg (fun z => h1 ((e _ _).mp z)), PySem.W.not_lt_str]
    have h1' : ¬ a.1 = b.1 := fun z => h1 z.symm
    rw [Bool.eq_iff_iff, decide_eq_true_eq, decide_eq_true_eq]
    constructor
    · intro h
      left
      rcases Classical.em (a.1 < b.1) with q | q
      · exact q
      · exact absurd (List.le_antisymm h (List.not_lt.mp q)) h1'
    · rintro (h | ⟨h, _⟩)
      · exact fun q => List.lt_irrefl _ (List.lt_trans h q)
      · exact absurd h h1'
theorem sortD_rp {l m : List RP} (hp : l.Perm m) (hs : l.Pairwise fun a b => leR a b = true) : sortD (m.map rpD) = l.map rpD := by
  have h1 : (m.mergeSort leR).map rpD = sortD (m.map rpD) := by
    unfold sortD
    refine List.map_mergeSort (f := rpD) fun a _ b _ => ?_
    show leR a b = PySem.W.dataLe false rpD a b
    rw [dataLe_rp]
  rw [← h1]
  congr 1
  have total : ∀ a b : RP, (leR a b || leR b a) = true := fun a b => by
    unfold leR
    rw [Bool.or_eq_true, decide_eq_true_eq, decide_eq_true_eq]
    by_cases h : a.1 = b.1
    · rcases List.le_total a.2 b.2 with q | q
      · exact .inl (.inr ⟨h, q⟩)
      · exact .inr (.inr ⟨h.symm, q⟩)
    · rcases List.le_total a.1 b.1 with q | q
      · left; left
        rcases Classical.em (a.1 < b.1) with z | z
        · exact z
        · exact absurd (List.le_antisymm q (List.not_lt.mp z)) h
      · right; left
        rcases Classical.em (b.1 < a.1) with z | z
        · exact z
        · exact absurd (List.le_antisymm (List.not_lt.mp z) q) h
  have trans : ∀ a b c : RP, leR a b = true → leR b c = true → leR a c = true := fun a b c h1 h2 => by
    have h1 := of_decide_eq_true h1
    have h2 := of_decide_eq_true h2
    refine decide_eq_true ?_
    rcases h1 with h1 | ⟨e1, g1⟩
    · rcases h2 with h2 | ⟨e2, g2⟩
      · exact .inl (List.lt_trans h1 h2)
      · rw [← e2]; exact .inl h1
    · rcases h2 with h2 | ⟨e2, g2⟩
      · rw [e1]; exact .inl h2
      · exact .inr ⟨e1.trans e2, List.le_trans g1 g2⟩
  exact (List.Perm.eq_of_pairwise (le := fun a b => leR a b = true) (fun a b _ _ h1 h2 => leR_anti h1 h2) hs (List.pairwise_mergeSort trans total m) (hp.trans (List.mergeSort_perm m leR).symm)).symm
theorem sortD_T (l : List (List Nat)) : sortD (l.map T) = (srtT l).map T := by
  unfold sortD srtT
  refine (List.map_mergeSort (f := T) fun a _ b _ => ?_).symm
  show decide (a ≤ b) = PySem.W.dataLe false (fun x : List Nat => .str (tx x)) a b
  rw [PySem.W.dataLe_str (fun x : List Nat => tx x)]
  show _ = decide ((tx a).cps.toList ≤ (tx b).cps.toList)
  rw [tx_list, tx_list]
theorem alikeT (l : List (List Nat)) : PySem.W.AllAlike (l.map T) := PySem.W.AllAlike.of fun _ _ => rfl
theorem sortableT (l : List (List Nat)) : PySem.W.Sortable (l.map T) := PySem.W.Sortable.others fun b => ⟨(fun z => by cases z), fun xs z => by cases z⟩
theorem cd_sortT {K : PySem.W.Frag} {l : List (List Nat)} (h : ∀ t ∈ l, abc t) : CbD K (rSortedD K) [.list (l.map T)] (.ls ((srtT l).map T)) := by
  rw [← sortD_T]
  exact cd_sorted (n := 1) (fun d hd => by
    obtain ⟨t, ht, rfl⟩ := List.mem_map.mp hd
    exact sh_T (h t ht)) (by decide) (alikeT l) (sortableT l)
/-- all the small replacements -/
def words : List (List Nat) := lv 1 ++ lv 2
def smallP : List RP := words.flatMap fun o => ([] :: words).map fun n => (o, n)
def wordsS : List (List Nat) := [[97], [97, 97], [97, 98], [97, 99], [98], [98, 97], [98, 98], [98, 99], [99], [99, 97], [99, 98], [99, 99]]
def smalls : List RP := wordsS.flatMap fun o => ([] :: wordsS).map fun n => (o, n)
theorem words_sort : srtT words = wordsS := (srtT_uniq (l := wordsS) (m := words) (by decide +kernel) (by decide +kernel)).symm
theorem smalls_perm : smalls.Perm smallP := by decide +kernel
theorem smalls_sorted : smalls.Pairwise fun a b => leR a b = true := by decide +kernel
theorem smalls_len : smalls.length = 156 := by decide +kernel
theorem smalls_rp : ∀ s ∈ smalls, Rp s.1 s.2 ∧ s.2.length ≤ 2 := by
  have h : smalls.all (fun s => decide (1 ≤ s.1.length) && decide (s.1.length ≤ 4) && decide (s.2.length ≤ 2) && s.1.all isSign && s.2.all isSign) = true := by decide +kernel
  intro s hs
  have h := List.all_eq_true.mp h s hs
  simp only [Bool.and_eq_true, decide_eq_true_eq, abc_all] at h
  obtain ⟨⟨⟨⟨h1, h2⟩, h3⟩, h4⟩, h5⟩ := h
  exact ⟨⟨h1, h2, by omega, h4, h5⟩, h3⟩
end Sw
/-! part P22 -/
set_option Elab.async false
set_option linter.all false
set_option maxRecDepth 100000
set_option maxHeartbeats 4000000
namespace Sw
open PySem PySem.Spec L2
local macro_rules | `(tactic| walk_at "sz") => `(tactic| first | assumption | omega | (have hsz := szl; omega) | (have hsz := szl; simp only [List.length_append, List.length_cons, List.length_nil, List.length_take, List.length_drop, List.length_reverse, List.length_map, List.length_range]; omega) | decide)
local macro_rules | `(tactic| walk_at "evF") => `(tactic| fail)
local macro_rules | `(tactic| walk_at "ev1") => `(tactic| first
  | ((with_reducible apply ev_var); exact rfl) | with_reducible exact ev_int | with_reducible exact ev_none | with_reducible exact ev_bool | with_reducible exact ev_str
  | with_reducible exact ea_nil | with_reducible apply ea_cons | with_reducible exact eo_none | with_reducible apply eo_some
  | with_reducible exact et_yes | with_reducible apply et_B | with_reducible apply et_test | with_reducible apply et_not | with_reducible apply et_and | with_reducible apply et_or
  | (refine fun (_ : (_ : Bool) = true) => ?_) | (refine fun (_ : (_ : Bool) = false) => ?_)
  | walk_at "evF"
  | with_reducible apply ev_isi | with_reducible apply ev_op | with_reducible apply ev_cb | with_reducible apply ev_sl | with_reducible apply ev_un | with_reducible apply ev_notV
  | with_reducible apply ev_tup | with_reducible apply ev_lst | ((with_reducible apply EvX.frz); with_reducible apply ev_lst)
  | with_reducible apply ev_revL | with_reducible apply ev_revT | with_reducible apply ev_chain
  | with_reducible exact od_add_int | with_reducible exact od_sub | with_reducible exact od_lt | with_reducible exact od_le | with_reducible exact od_gt | with_reducible exact od_ge | with_reducible exact od_eq_int | with_reducible exact od_ne_int
  | with_reducible exact od_eqT | with_reducible exact od_neT | with_reducible exact od_ltT | with_reducible exact od_eq_bool | with_reducible exact od_ne_bool | with_reducible exact od_isN | with_reducible exact od_ntN | with_reducible exact od_isB | with_reducible exact od_ntB
  | with_reducible refine od_addT ?_ | ((with_reducible apply od_ix_tup); exact rfl) | ((with_reducible apply od_ix_list); exact rfl)
  | with_reducible exact cd_lenL | with_reducible exact cd_lenU | with_reducible exact cd_lenS | with_reducible refine cd_lenT ?_ | with_reducible refine cd_lenZ ?_ | with_reducible exact cd_max2 | with_reducible exact cd_min2 | with_reducible exact cd_all | with_reducible exact cd_any
  | refine sd_Tn rfl (Int.natCast_add _ _).symm ?_ | refine sd_Tn rfl rfl ?_ | refine sd_TLn rfl ?_ | refine sd_TRn rfl ?_
  | with_reducible refine od_mulT ?_ ?_ ?_ | with_reducible refine OpD.frz (od_mul_list ?_ ?_ ?_)
  | (intro z h; cases h; done) | walk_at "sz")
local macro_rules | `(tactic| walk_at "ev") => `(tactic| repeat' walk_at "ev1")
/-! ## sources.py: sources, and whether a text is reached (for any new word) -/
def kvB (S : List ST) : List (PyData × PyData) := S.map fun s => (stD s, .bool true)
theorem kvB_keys (S : List ST) : (kvB S).map (·.1) = S.map stD := by unfold kvB; rw [List.map_map]; rfl
theorem kvB_len (S : List ST) : (kvB S).length = S.length := by unfold kvB; rw [List.length_map]
theorem kvB_flat (S : List ST) : flatK (kvB S) := fun kv hkv => by
  obtain ⟨s, _, rfl⟩ := List.mem_map.mp hkv
  rfl
theorem stD_memB {S : List ST} {u : ST} : stD u ∈ S.map stD ↔ u ∈ S := ⟨fun h => by
  obtain ⟨s, hs, e⟩ := List.mem_map.mp h
  rw [← stD_inj e]; exact hs, fun h => List.mem_map_of_mem h⟩
theorem stk_kvB (S : List ST) (u : ST) : stk (kvB S) (stD u) (.bool true) = kvB (addN S u) := by
  unfold stk addN
  rw [kvB_keys]
  by_cases hu : u ∈ S
  · rw [if_pos (stD_memB.mpr hu), if_pos hu]
    unfold kvB
    rw [List.map_map]
    refine List.map_congr_left fun s _ => ?_
    show (if stD s = stD u then (stD s, PyData.bool true) else (stD s, PyData.bool true)) = _
    split <;> rfl
  · rw [if_neg (fun z => hu (stD_memB.mp z)), if_neg hu]
    unfold kvB
    rw [List.map_append]; rfl
theorem okK_stB {old new : List Nat} (hr : Rp old new) {s : ST} (h : OkSt old new s) : okK (stD s) := ⟨keyN_st hr h, by simp [PyData.depth, PyData.depthAll]⟩
theorem adds_snocB (L : List ST) (x : ST) : (L ++ [x]).foldl addN [] = addN (L.foldl addN []) x := by rw [List.foldl_append]; rfl
theorem adds_le {old new : List Nat} (hr : Rp old new) {L : List ST} (h : ∀ y ∈ L, OkSt old new y) : (L.foldl addN []).length ≤ 8 := by
  obtain ⟨a, b⟩ := adds_all L [] List.nodup_nil
  exact ok_len hr (fun st hs => by
    rcases (b st).mp hs with z | z
    · cases z
    · exact h st z) a
theorem adds_snocC (L : List ST) (N : List ST) (x : ST) : (L ++ [x]).foldl addN N = addN (L.foldl addN N) x := by rw [List.foldl_append]; rfl
theorem adds_leC {old new : List Nat} (hr : Rp old new) {L N : List ST} (hn : N.Nodup) (h0 : ∀ y ∈ N, OkSt old new y) (h : ∀ y ∈ L, OkSt old new y) : (L.foldl addN N).length ≤ 8 := by
  obtain ⟨a, b⟩ := adds_all L N hn
  exact ok_len hr (fun st hs => by
    rcases (b st).mp hs with z | z
    · exact h0 st z
    · exact h st z) a
def spC (old new : List Nat) (E : List (List Nat)) : Bool := decide (new = []) && (!decide ([] ∈ E) && E.any fun e => mput old new e old)
theorem spC_iff {old new : List Nat} {E : List (List Nat)} : spC old new E = true ↔ (new = [] ∧ [] ∉ E ∧ (E.any fun e => mput old new e old) = true) := by
  unfold spC
  rw [Bool.and_eq_true, Bool.and_eq_true, decide_eq_true_iff, Bool.not_eq_true', decide_eq_false_iff_not]
def F_spread (ds : List PyData) (sd : SD) : Prop := ∃ (old new : List Nat) (E : List (List Nat)), ds = [rep old new, .list (E.map T)] ∧ Rp old new ∧ (∀ e ∈ E, abc e ∧ e.length ≤ 10) ∧ E.length ≤ 8 ∧ sd = if spC old new E = true then .ls ((E ++ [[]]).map T) else .dt (.list (E.map T))
def F_all_ways (ds : List PyData) (sd : SD) : Prop := ∃ old new S c, ds = [rep old new, .tuple (S.map stD), T [c]] ∧ Rp old new ∧ (∀ st ∈ S, OkSt old new st) ∧ sd = .dt (.tuple ((srtQ (nxG old new c S)).map stD))
def F_start_states (ds : List PyData) (sd : SD) : Prop := ∃ old new, ds = [rep old new] ∧ Rp old new ∧ sd = .dt (.tuple [stD ([], 0)])
def F_is_complete (ds : List PyData) (sd : SD) : Prop := ∃ S : List ST, ds = [.tuple (S.map stD)] ∧ S.length ≤ 8 ∧ sd = .dt (.bool (S.any fun st => decide (st.2 = 0)))
def F_is_reached (ds : List PyData) (sd : SD) : Prop := ∃ old new text b, ds = [rep old new, T text] ∧ Rp old new ∧ abc text ∧ text.length ≤ 40 ∧ (b = true ↔ Rch old new text) ∧ sd = .dt (.bool b)
def F_unreached_text (ds : List PyData) (sd : SD) : Prop := ∃ old new o, ds = [rep old new] ∧ Rp old new ∧ IsFirst (fun t => ¬ Rch old new t) o ∧ sd = .dt (optT o)
theorem len_spread : ∀ ds sd, F_spread ds sd → ds.length = 2 := by rintro _ _ ⟨_, _, _, rfl, _⟩; rfl
theorem len_all_ways : ∀ ds sd, F_all_ways ds sd → ds.length = 3 := by rintro _ _ ⟨_, _, _, _, rfl, _⟩; rfl
theorem len_start_states : ∀ ds sd, F_start_states ds sd → ds.length = 1 := by rintro _ _ ⟨_, _, rfl, _⟩; rfl
theorem len_is_complete : ∀ ds sd, F_is_complete ds sd → ds.length = 1 := by rintro _ _ ⟨_, rfl, _⟩; rfl
theorem len_is_reached : ∀ ds sd, F_is_reached ds sd → ds.length = 2 := by rintro _ _ ⟨_, _, _, _, rfl, _⟩; rfl
theorem len_unreached_text : ∀ ds sd, F_unreached_text ds sd → ds.length = 1 := by rintro _ _ ⟨_, _, _, rfl, _⟩; rfl
/-! the search -/
def sqD (S : List ST) : PyData := .tuple (S.map stD)
def ndU (old new t : List Nat) : PyData := .tuple [T t, sqD (stU old new t)]
def kvU (old new : List Nat) (N : List (List Nat)) : List (PyData × PyData) := N.map fun t => (sqD (stU old new t), .bool true)
theorem sqD_inj : ∀ {a b : List ST}, sqD a = sqD b → a = b := by
  have key : ∀ (a b : List ST), a.map stD = b.map stD → a = b := by
    intro a
    induction a with
    | nil => intro b h; cases b with
      | nil => rfl
      | cons y b => cases h
    | cons x a ih =>
      intro b h
      cases b with
      | nil => cases h
      | cons y b =>
        rw [List.map_cons, List.map_cons] at h
        injection h with h1 h2
        rw [stD_inj h1, ih b h2]
  intro a b h
  unfold sqD at h
  injection h with h
  exact key a b h
theorem kvU_mem {old new : List Nat} {N : List (List Nat)} {S : List ST} : sqD S ∈ (kvU old new N).map (·.1) ↔ S ∈ N.map (stU old new) := by
  have e : (kvU old new N).map (·.1) = (N.map (stU old new)).map sqD := by unfold kvU; rw [List.map_map, List.map_map]; rfl
  rw [e]
  constructor
  · intro h
    obtain ⟨x, hx, e⟩ := List.mem_map.mp h
    rw [← sqD_inj e]; exact hx
  · intro h; exact List.mem_map.mpr ⟨S, h, rfl⟩
theorem keyNs_st {old new : List Nat} (hr : Rp old new) : ∀ {S : List ST}, (∀ st ∈ S, OkSt old new st) → keyNs (S.map stD) = true
  | [], _ => rfl
  | s :: S, h => by
    show (keyN (stD s) && keyNs (S.map stD)) = true
    rw [keyN_st hr (h s List.mem_cons_self), keyNs_st hr fun x hx => h x (List.mem_cons_of_mem _ hx)]
    rfl
theorem sh_sq {old new : List Nat} (hr : Rp old new) {S : List ST} (h : ∀ st ∈ S, OkSt old new st) : Sh 3 (sqD S) := sh_tuple fun d hd => by
  obtain ⟨t, ht, rfl⟩ := List.mem_map.mp hd
  exact sh_st hr (h t ht)
theorem keyT_st : ∀ S : List ST, keyT (.tuple (S.map stD)) = keyN (.tuple (S.map stD))
  | [] => rfl
  | [_] => rfl
  | [_, _] => rfl
  | [_, _, _] => rfl
  | _ :: _ :: _ :: _ :: _ => rfl
theorem okK_sq {old new : List Nat} (hr : Rp old new) {S : List ST} (h : ∀ st ∈ S, OkSt old new st) : okK (sqD S) := ⟨by unfold sqD; rw [keyT_st]; show keyNs (S.map stD) = true; exact keyNs_st hr h, Nat.le_trans (sh_sq hr h).2 (by decide)⟩
theorem sh_ndU {old new t : List Nat} (hr : Rp old new) (ht : abc t) : Sh 4 (ndU old new t) := sh_tuple fun d hd => by
  simp only [List.mem_cons, List.not_mem_nil, or_false] at hd
  rcases hd with rfl | rfl
  · exact (sh_T ht).mono (by decide)
  · exact sh_sq hr (sts_ok hr.o1 (stU_ok hr.o1 t))
def t_spread (K : PySem.W.Frag) (W : WX) : TS :=
  (tSeq (tIfS (tAnd (tTest (tOp (rEqU K) (tOp (rIx K) (tVar 0) (tC (.int 1))) (tC (.str (tx []))))) (tAnd (tTest (tOp (rNiU K) (tC (.str (tx []))) (tVar 1))) (tB (tCB (rAny K) (tCons (tLc (iList K (tVar 1)) (gName 2) tYes (tCallS (spD K F_may_put) (WE W0) (tCons (tVar 0) (tCons (tVar 2) tNil))) [2]) tNil))))) (tRet (tOp (rAddU K) (tCB (rListOf K) (tCons (tVar 1) tNil)) (tLst (tCons (tC (.str (tx []))) tNil)))) tNext)
    (tRet (tVar 1)))
def t_all_ways (K : PySem.W.Frag) (W : WX) (w : World) : TS :=
  (tSeq (tAsg (tDNewN w) (gName 3))
    (tSeq (tFor (iTup K (tVar 1)) (gName 4) (tFor (iList K (tCallS (spD K F_ways_on) (WE W) (tCons (tVar 0) (tCons (tVar 4) (tCons (tVar 2) tNil))))) (gTup K 2 (gCons (gName 5) (gCons (gName 6) gNil))) (sNPut K w (tVar 3) (tVar 6) (tC (.bl true)))))
    (tSeq (tAsg (tLc (iDicN (tVar 3)) (gTup K 2 (gCons (gName 8) (gCons (gName 9) gNil))) (tTest (tOp (rEqU K) (tVar 9) (tC (.int 0)))) (tVar 8) [8, 9]) (gName 7))
    (tSeq (tFor (iList K (tCallS (spD K F_spread) (WE W) (tCons (tVar 0) (tCons (tVar 7) tNil)))) (gName 8) (sNPut K w (tVar 3) (tTup (tCons (tVar 8) (tCons (tC (.int 0)) tNil))) (tC (.bl true))))
    (tRet (tThen (tCB (rSortDk K) (tCons (tVar 3) tNil)) (kTup K)))))))
def t_start_states (K : PySem.W.Frag) (W : WX) : TS :=
  (tRet (tThen (tCB (rSortedD K) (tCons (tLc (iList K (tCallS (spD K F_spread) (WE W) (tCons (tVar 0) (tCons (tLst (tCons (tC (.str (tx []))) tNil)) tNil)))) (gName 1) tYes (tTup (tCons (tVar 1) (tCons (tC (.int 0)) tNil))) [1]) tNil)) (kTup K)))
def t_is_complete (K : PySem.W.Frag) (W : WX) : TS :=
  (tRet (tCB (rAny K) (tCons (tLc (iTup K (tVar 0)) (gTup K 2 (gCons (gName 2) (gCons (gName 1) gNil))) tYes (tOp (rEqU K) (tVar 1) (tC (.int 0))) [2, 1]) tNil)))
def t_is_reached (K : PySem.W.Frag) (W : WX) : TS :=
  (tSeq (tDrop (tCallS (spD K F_check_replacement) (WE W) (tCons (tVar 0) tNil)))
    (tSeq (tDrop (tCallS (spD K F_check_text) (WE W) (tCons (tVar 1) tNil)))
    (tSeq (tAsg (tCallS (spD K F_start_states) (WE W) (tCons (tVar 0) tNil)) (gName 2))
    (tSeq (tFor (iStr (tVar 1)) (gName 3) (tAsg (tCallS (spD K F_all_ways) (WE W) (tCons (tVar 0) (tCons (tVar 2) (tCons (tVar 3) tNil)))) (gName 2)))
    (tRet (tCallS (spD K F_is_complete) (WE W) (tCons (tVar 2) tNil)))))))
def t_unreached_text (K : PySem.W.Frag) (W : WX) (w : World) : TS :=
  (tSeq (tDrop (tCallS (spD K F_check_replacement) (WE W) (tCons (tVar 0) tNil)))
    (tSeq (tPar 1 2 (tCons (tLst (tCons (tTup (tCons (tC (.str (tx []))) (tCons (tCallS (spD K F_start_states) (WE W) (tCons (tVar 0) tNil)) tNil))) tNil)) (tCons (tNDisp K w (tCallS (spD K F_start_states) (WE W) (tCons (tVar 0) tNil)) (tC (.bl true))) tNil)))
    (tSeq (tWhile (tTest (tOp (rNeU K) (tVar 1) (tLst tNil))) (tSeq (tAsg (tLst tNil) (gName 3))
    (tSeq (tFor (iList K (tVar 1)) (gTup K 2 (gCons (gName 4) (gCons (gName 5) gNil))) (tSeq (tIfS (tNot (tB (tCallS (spD K F_is_complete) (WE W) (tCons (tVar 5) tNil)))) (tRet (tVar 4)) tNext)
    (tFor (iStr (tC (.str (tx [97, 98, 99])))) (gName 6) (tSeq (tAsg (tCallS (spD K F_all_ways) (WE W) (tCons (tVar 0) (tCons (tVar 5) (tCons (tVar 6) tNil)))) (gName 7))
    (tIfS (tTest (tOp (rNiD K w) (tVar 7) (tVar 2))) (tSeq (sNPut K w (tVar 2) (tVar 7) (tC (.bl true)))
    (tDrop (tBM K "list" rAppend (tVar 3) (tCons (tTup (tCons (tOp (rAddU K) (tVar 4) (tVar 6)) (tCons (tVar 7) tNil))) tNil)))) tNext)))))
    (tAsg (tVar 3) (gName 1)))))
    (tRet (tC .non)))))
section
variable {K : PySem.W.Frag} {W : WX} {w : World} {ds : List PyData} {sd : SD} {τ : Tau} {ta tb tc : TE} {E : St → XK}
theorem eqv_T {a b : List Nat} : PyData.eqv (T a) (T b) = decide (a = b) := by
  rw [Bool.eq_iff_iff, decide_eq_true_iff]
  constructor
  · intro h
    have h : tx a = tx b := by simpa [PyData.eqv] using h
    exact tx_inj h
  · intro h; rw [h]; simp [PyData.eqv]
theorem any_T (E : List (List Nat)) : ((E.map T).any fun z => PyData.eqv z (T [])) = decide ([] ∈ E) := by
  rw [Bool.eq_iff_iff, decide_eq_true_iff, List.any_eq_true]
  constructor
  · rintro ⟨z, hz, e⟩
    obtain ⟨t, ht, rfl⟩ := List.mem_map.mp hz
    rw [eqv_T] at e
    rw [← of_decide_eq_true e]; exact ht
  · intro h; exact ⟨T [], List.mem_map_of_mem h, by rw [eqv_T]; rfl⟩
theorem ws_spread (h : F_spread ds sd) : WS K (t_spread K W) (startD 3 ds) (retE W sd) := by
  obtain ⟨old, new, E0, rfl, hr, hE, hl, rfl⟩ := h
  show WS K (t_spread K W) [.dt (rep old new), .dt (.list (E0.map T)), .no] _
  unfold t_spread
  have hz := szl
  have z1 : (1 : Nat) ≤ sizeLine := by decide
  refine ws_seq (ws_if (b := spC old new E0) (et_and (et_test (ev_op (ev_op (ev_var rfl) ev_int (od_ix_tup (d := T new) rfl)) (ev_str (z := tx [])) (od_eqT (b := [])))) fun hn => et_and (et_test (ev_is (ev_op (ev_str (z := tx [])) (ev_var rfl) (od_niL (d := T []) (n := 1) (m := 1) (sh_T abc_nil) (by decide) fun d hd => ?_)) (by rw [any_T]))) fun _ => et_B (ev_is (ev_cb (ea_cons (EvX.frz (ev_isL (ev_lcM (l := E0) (d := T) (fun e => .bool (mput old new e old)) (ie_list (ev_var rfl)) (by omega) fun e he => ⟨_, te_name (by decide), e_may_put (ev_var rfl) (ev_var rfl) hr (hE e he).2⟩) (ds' := (E0.map fun e => mput old new e old).map PyData.bool) (by rw [List.map_map]; rfl))) ea_nil) cd_any) (by rw [List.any_map]; rfl))) (fun hc => ?_) (fun hc => ws_next ?_))
  · obtain ⟨t, ht, rfl⟩ := List.mem_map.mp hd
    exact sh_T (hE t ht).1
  · rw [if_pos hc]
    exact ws_ret (ev_isL (ev_op (EvX.frz (ev_cb (ea_cons (ev_var rfl) ea_nil) cd_listOf)) (EvX.frz (ev_lst (ds := [T []]) (ea_cons ev_str ea_nil) z1)) (od_add_list (by rw [List.length_map]; show _ + 1 ≤ _; omega))) (by rw [List.map_append]; rfl)) rfl
  · rw [hc]
    exact ws_ret (ev_var rfl) rfl
theorem e_spread {old new : List Nat} {E0 : List (List Nat)} (ha : EvS K ta τ (rep old new)) (hb : EvS K tb τ (.list (E0.map T))) (hr : Rp old new) (hE : ∀ e ∈ E0, abc e ∧ e.length ≤ 10) (hl : E0.length ≤ 8) : EvX K (tCallS (spD K F_spread) E (tCons ta (tCons tb tNil))) τ (.dt (.list ((sprd old new E0).map T))) := by
  unfold sprd
  cases hc : spC old new E0 with
  | true =>
    rw [if_pos (spC_iff.mp hc)]
    exact EvX.frz (ev_call (ea_cons ha (ea_cons hb ea_nil)) ⟨old, new, E0, rfl, hr, hE, hl, by rw [if_pos hc]⟩)
  | false =>
    rw [if_neg (fun z => by rw [spC_iff.mpr z] at hc; cases hc)]
    exact ev_call (ea_cons ha (ea_cons hb ea_nil)) ⟨old, new, E0, rfl, hr, hE, hl, by rw [hc]; rfl⟩
theorem ws_all_ways (h : F_all_ways ds sd) : WS K (t_all_ways K W w) (startD 10 ds) (retE W sd) := by
  obtain ⟨old, new, S, c, rfl, hr, hS, rfl⟩ := h
  show WS K (t_all_ways K W w) [.dt (rep old new), .dt (.tuple (S.map stD)), .dt (T [c]), .no, .no, .no, .no, .no, .no, .no] _
  unfold t_all_ways
  have hz := szl
  have ho1 := hr.o1
  have z2 : (2 : Nat) ≤ sizeLine := by decide
  have hokL : ∀ y ∈ nxL old new c S, OkSt old new y := fun y hy => by
    unfold nxL at hy
    obtain ⟨st, h1, h2⟩ := List.mem_flatMap.mp hy
    obtain ⟨q, hq, rfl⟩ := List.mem_map.mp h2
    exact (okSt_ways ho1 (hS st h1) hq).1
  refine ws_seq (ws_set (ev_dnewN (w := w)) ?_)
  refine ws_seq (ws_for (ie_tup (ev_var rfl)) (fun i τ => ∃ x4 x5 x6, τ = [.dt (rep old new), .dt (.tuple (S.map stD)), .dt (T [c]), dcN w (kvB ((nxL old new c (S.take i)).foldl addN [])), x4, x5, x6, .no, .no, .no]) ⟨_, _, _, rfl⟩ ?_ ?_)
  · rintro i x τ hx ⟨x4, x5, x6, rfl⟩
    obtain ⟨st, hst, rfl⟩ := map_get hx
    have hst2 := hS st (List.mem_of_getElem? hst)
    refine ⟨_, tg_name, ?_⟩
    have hE : nxL old new c (S.take (i + 1)) = nxL old new c (S.take i) ++ (ways old new st c).map (·.2) := by
      rw [take_step hst]
      unfold nxL
      rw [List.flatMap_append]
      simp
    rw [hE]
    have hL0 : ∀ y ∈ nxL old new c (S.take i), OkSt old new y := fun y hy => hokL y (by
      unfold nxL at hy ⊢
      obtain ⟨s, h1, h2⟩ := List.mem_flatMap.mp hy
      exact List.mem_flatMap.mpr ⟨s, List.mem_of_mem_take h1, h2⟩)
    generalize nxL old new c (S.take i) = L0 at hL0 ⊢
    refine ws_for (ie_list (EvX.frz (e_ways_on (ev_var rfl) (ev_var rfl) (ev_var rfl) hr hst2))) (fun j τ => ∃ x5 x6, τ = [.dt (rep old new), .dt (.tuple (S.map stD)), .dt (T [c]), dcN w (kvB ((L0 ++ ((ways old new st c).take j).map (·.2)).foldl addN [])), .dt (stD st), x5, x6, .no, .no, .no]) ⟨_, _, by rw [List.take_zero, List.map_nil, List.append_nil]; rfl⟩ ?_ ?_
    · rintro j x τ hx ⟨y5, y6, rfl⟩
      obtain ⟨q, hq, rfl⟩ := map_get hx
      have hqm := List.mem_of_getElem? hq
      refine ⟨_, tg_tup (tgs_cons tg_name (tgs_cons tg_name tgs_nil)) rfl, ?_⟩
      have hqo := (okSt_ways ho1 hst2 hqm).1
      have hle := adds_le hr (L := L0 ++ ((ways old new st c).take j).map (·.2)) fun y hy => by
        rcases List.mem_append.mp hy with z | z
        · exact hL0 y z
        · obtain ⟨q', hq', rfl⟩ := List.mem_map.mp z
          exact (okSt_ways ho1 hst2 (List.mem_of_mem_take hq')).1
      refine ws_nputD (i := 3) (e := .bool true) rfl (kvB_flat _) (ev_var rfl) (okK_stB hr hqo) ev_bool rfl (by rw [kvB_len]; omega) ⟨.dt (T q.1), .dt (stD q.2), ?_⟩
      have e1 : L0 ++ ((ways old new st c).take (j + 1)).map (·.2) = L0 ++ ((ways old new st c).take j).map (·.2) ++ [q.2] := by
        rw [take_step hq, List.map_append, List.append_assoc]; rfl
      rw [e1, adds_snocB, ← stk_kvB]
      rfl
    · rintro τ ⟨y5, y6, rfl⟩
      rw [List.length_map, List.take_length]
      exact ⟨_, _, _, rfl⟩
  · rintro τ ⟨x4, x5, x6, rfl⟩
    rw [List.length_map, List.take_length]
    have hN : (nxL old new c S).foldl addN [] = nxt old new c S := rfl
    rw [hN]
    have hNo : ∀ y ∈ nxt old new c S, OkSt old new y := nxt_ok ho1 hS
    have hNl := ok_len hr hNo (nxt_nd c S)
    have hNd := nxt_nd (old := old) (new := new) c S
    unfold nxG
    generalize nxt old new c S = N at hNo hNl hNd ⊢
    refine ws_seq (ws_setLD (i := 3) (ds := (endsOf N).map T) rfl (kvB_flat _) (ev_isL (ev_lcF (l := N) (d := stD) (fun st => decide (st.2 = 0)) (fun st => T st.1) (by rw [← kvB_keys N]; refine ie_dicN (w := w) (kvs := kvB N) ?_; exact ev_var rfl) (by omega) fun st hs => ⟨_, te_tup (tes_cons (te_name (by decide)) (tes_cons (te_name (by decide)) tes_nil)) rfl, et_test (ev_is (ev_op (ev_var rfl) ev_int od_eq_int) ?_), fun _ => ev_var rfl⟩) (by unfold endsOf; rw [List.map_map]; rfl)) (fun d hd => ?_) ?_)
    · congr 1
      rw [Bool.eq_iff_iff, decide_eq_true_eq, decide_eq_true_eq]; omega
    · obtain ⟨st, _, rfl⟩ := List.mem_map.mp hd
      rfl
    refine ws_frz 7 rfl ?_
    have hEo : ∀ e ∈ endsOf N, abc e ∧ e.length ≤ 10 := fun e he => by
      have hk := hNo _ (ends_mem.mp he)
      have := hk.1.2
      have := hr.o4
      exact ⟨abc_st hr hk, by show e.length ≤ 10; have h3 : e.length < old.length := hk.1.2; omega⟩
    have hEl : (endsOf N).length ≤ 8 := by
      unfold endsOf
      rw [List.length_map]
      exact Nat.le_trans (List.length_filter_le _ _) hNl
    have hSo : ∀ e ∈ sprd old new (endsOf N), OkSt old new (e, 0) := fun e he => by
      rcases sprd_mem he with z | ⟨_, z, _⟩
      · exact hNo _ (ends_mem.mp z)
      · rw [z]; exact okSt_nil ho1
    refine ws_seq (ws_for (ie_list (e_spread (ev_var rfl) (ev_var rfl) hr hEo hEl)) (fun i τ => ∃ x7 x8, τ = [.dt (rep old new), .dt (.tuple (S.map stD)), .dt (T [c]), dcN w (kvB ((((sprd old new (endsOf N)).take i).map fun e => (e, 0)).foldl addN N)), x4, x5, x6, x7, x8, .no]) ⟨_, _, rfl⟩ ?_ ?_)
    · rintro i x τ hx ⟨x7, x8, rfl⟩
      obtain ⟨e, he, rfl⟩ := map_get hx
      refine ⟨_, tg_name, ?_⟩
      have hok := hSo e (List.mem_of_getElem? he)
      have hle := adds_leC hr (L := ((sprd old new (endsOf N)).take i).map fun e => (e, 0)) hNd hNo fun y hy => by
        obtain ⟨e', he', rfl⟩ := List.mem_map.mp hy
        exact hSo e' (List.mem_of_mem_take he')
      refine ws_nputD (i := 3) (e := .bool true) rfl (kvB_flat _) (ds := [T e, .int 0]) (ev_tup (ea_cons (ev_var rfl) (ea_cons ev_int ea_nil)) z2) (okK_stB hr hok) ev_bool rfl (by rw [kvB_len]; omega) ⟨x7, .dt (T e), ?_⟩
      have e1 : ((sprd old new (endsOf N)).take (i + 1)).map (fun e => ((e, 0) : ST)) = ((sprd old new (endsOf N)).take i).map (fun e => (e, 0)) ++ [(e, 0)] := by rw [take_step he, List.map_append]; rfl
      rw [e1, adds_snocC, ← stk_kvB]
      rfl
    · rintro τ ⟨x7, x8, rfl⟩
      rw [List.length_map, List.take_length]
      refine ws_frzD 3 rfl (kvB_flat _) ?_
      refine ws_ret (ev_tupleOf (EvX.frz (ev_isL (ev_cb (ea_cons (ev_var rfl) ea_nil) (cd_sortDk (w := w) ?_ ?_)) (by rw [kvB_keys, sortD_st])))) rfl
      · rw [kvB_keys]; exact PySem.W.AllAlike.of fun _ _ => rfl
      · rw [kvB_keys]; exact PySem.W.Sortable.tuples fun b => ⟨_, _, rfl⟩
theorem e_all_ways {old new : List Nat} {S : List ST} {c : Nat} (ha : EvS K ta τ (rep old new)) (hb : EvS K tb τ (.tuple (S.map stD))) (hc : EvS K tc τ (T [c])) (hr : Rp old new) (hS : ∀ st ∈ S, OkSt old new st) : EvX K (tCallS (spD K F_all_ways) E (tCons ta (tCons tb (tCons tc tNil)))) τ (.dt (.tuple ((srtQ (nxG old new c S)).map stD))) :=
  ev_call (ea_cons ha (ea_cons hb (ea_cons hc ea_nil))) ⟨old, new, S, c, rfl, hr, hS, rfl⟩
theorem ws_start_states (h : F_start_states ds sd) : WS K (t_start_states K W) (startD 2 ds) (retE W sd) := by
  obtain ⟨old, new, rfl, hr, rfl⟩ := h
  show WS K (t_start_states K W) [.dt (rep old new), .no] _
  unfold t_start_states
  have z1 : (1 : Nat) ≤ sizeLine := by decide
  have z2 : (2 : Nat) ≤ sizeLine := by decide
  refine ws_ret (ev_tupleOf (EvX.frz (ev_isL (ev_cb (ea_cons (EvX.frz (ev_isL (ev_lcM (l := [([] : List Nat)]) (d := T) (fun t => stD (t, 0)) (by
    have hsp : sprd old new [[]] = [[]] := by unfold sprd; rw [if_neg (fun z => z.2.1 List.mem_cons_self)]
    have := ie_list (K := K) (τ := [some (rep old new), none]) (e_spread (E := WE W) (τ := [some (rep old new), none]) (E0 := [[]]) (ta := tVar 0) (tb := tLst (tCons (tC (.str (tx []))) tNil)) (ev_var rfl) (EvX.frz (ev_lst (ds := [T []]) (ea_cons ev_str ea_nil) z1)) hr (fun e he => by rw [List.mem_singleton.mp he]; exact ⟨abc_nil, by decide⟩) (by decide))
    rw [hsp] at this
    exact this) z1 fun t ht => ⟨_, te_name (by decide), ev_tup (ea_cons (ev_var rfl) (ea_cons ev_int ea_nil)) z2⟩) (ds' := [([], 0)].map stD) rfl)) ea_nil) (cd_sorted (n := 2) (fun d hd => ?_) (by decide) (PySem.W.AllAlike.of fun _ _ => rfl) (PySem.W.Sortable.tuples fun b => ⟨_, _, rfl⟩))) (by rw [sortD_st]; unfold srtQ; rw [List.mergeSort_singleton]; rfl)))) rfl
  rw [List.mem_singleton.mp hd]
  refine sh_tuple fun d hd => ?_
  simp only [List.mem_cons, List.not_mem_nil, or_false] at hd
  rcases hd with rfl | rfl
  · exact sh_T abc_nil
  · exact sh_int
theorem e_start_states {old new : List Nat} (ha : EvS K ta τ (rep old new)) (hr : Rp old new) : EvX K (tCallS (spD K F_start_states) E (tCons ta tNil)) τ (.dt (.tuple [stD ([], 0)])) := ev_call (ea_cons ha ea_nil) ⟨old, new, rfl, hr, rfl⟩
theorem ws_is_complete (h : F_is_complete ds sd) : WS K (t_is_complete K W) (startD 3 ds) (retE W sd) := by
  obtain ⟨S, rfl, hl, rfl⟩ := h
  show WS K (t_is_complete K W) [.dt (.tuple (S.map stD)), .no, .no] _
  unfold t_is_complete
  have hz := szl
  refine ws_ret (ev_is (ev_cb (ea_cons (EvX.frz (ev_isL (ev_lcM (l := S) (d := stD) (fun st => .bool (decide (st.2 = 0))) (ie_tup (ev_var rfl)) (by omega) fun st hs => ⟨_, te_tup (tes_cons (te_name (by decide)) (tes_cons (te_name (by decide)) tes_nil)) rfl, ev_is (ev_op (ev_var rfl) ev_int od_eq_int) ?_⟩) (ds' := (S.map fun st => decide (st.2 = 0)).map PyData.bool) (by rw [List.map_map]; rfl))) ea_nil) cd_any) ?_) rfl
  · congr 1
    rw [Bool.eq_iff_iff, decide_eq_true_eq, decide_eq_true_eq]; omega
  · rw [List.any_map]; rfl
theorem e_is_complete {S : List ST} (ha : EvS K ta τ (.tuple (S.map stD))) (hl : S.length ≤ 8) : EvX K (tCallS (spD K F_is_complete) E (tCons ta tNil)) τ (.dt (.bool (S.any fun st => decide (st.2 = 0)))) := ev_call (ea_cons ha ea_nil) ⟨S, rfl, hl, rfl⟩
theorem ws_is_reached (h : F_is_reached ds sd) : WS K (t_is_reached K W) (startD 4 ds) (retE W sd) := by
  obtain ⟨old, new, text, b, rfl, hr, ha, hl, hb, rfl⟩ := h
  show WS K (t_is_reached K W) [.dt (rep old new), .dt (T text), .no, .no] _
  unfold t_is_reached
  have ho1 := hr.o1
  refine ws_seq (ws_drop (e_check_replacement (ev_var rfl) hr) ?_)
  refine ws_seq (ws_drop (e_check_text (ev_var rfl) ha hl) ?_)
  refine ws_seq (ws_set (e_start_states (ev_var rfl) hr) ?_)
  refine ws_seq (ws_forN (in_str (ev_var rfl)) (fun i τ => ∃ (S : List ST) (x3 : SD), τ = [.dt (rep old new), .dt (T text), .dt (.tuple (S.map stD)), x3] ∧ StsOk old new (text.take i) S) ⟨[([], 0)], _, rfl, sts_nilG ho1⟩ ?_ ?_)
  · rintro i x τ hx ⟨S, x3, rfl, hS⟩
    obtain ⟨c, hc, rfl⟩ := signs_get hx
    refine ⟨_, tg_name, ?_⟩
    refine ws_set (e_all_ways (ev_var rfl) (ev_var rfl) (ev_var rfl) hr (sts_ok ho1 hS)) ⟨_, _, rfl, ?_⟩
    rw [take_step hc]
    exact sts_nextG ho1 hS (srtQ_perm _)
  · rintro τ ⟨S, x3, rfl, hS⟩
    have hsl : (signs (tx text)).length = text.length := by rw [signs_tx, List.length_map]
    rw [hsl, List.take_length] at hS
    refine ws_ret (ev_is (e_is_complete (ev_var rfl) (ok_len hr (sts_ok ho1 hS) hS.1)) ?_) rfl
    congr 1
    rw [Bool.eq_iff_iff, sts_anyG hS, hb]
theorem e_is_reached {old new text : List Nat} {b : Bool} (ha : EvS K ta τ (rep old new)) (hb : EvS K tb τ (T text)) (hr : Rp old new) (h1 : abc text) (h2 : text.length ≤ 40) (hbb : b = true ↔ Rch old new text) : EvX K (tCallS (spD K F_is_reached) E (tCons ta (tCons tb tNil))) τ (.dt (.bool b)) := ev_call (ea_cons ha (ea_cons hb ea_nil)) ⟨old, new, text, b, rfl, hr, h1, h2, hbb, rfl⟩
theorem ws_unreached_text (h : F_unreached_text ds sd) : WS K (t_unreached_text K W w) (startD 8 ds) (retE W sd) := by
  obtain ⟨old, new, o, rfl, hr, ho, rfl⟩ := h
  have ho1 := hr.o1
  have hz := szl
  have z1 : (1 : Nat) ≤ sizeLine := by decide
  have z2 : (2 : Nat) ≤ sizeLine := by decide
  have ho : IsFirst (fun t => gdU (stU old new t)) o := by
    have e : (fun t => gdU (stU old new t)) = fun t => ¬ Rch old new t := funext fun t => propext (gdU_iff ho1 t)
    rw [e]; exact ho
  have hokU : ∀ t, ∀ st ∈ stU old new t, OkSt old new st := fun t => sts_ok ho1 (stU_ok ho1 t)
  show WS K (t_unreached_text K W w) [.dt (rep old new), .no, .no, .no, .no, .no, .no, .no] _
  unfold t_unreached_text
  refine ws_seq (ws_drop (e_check_replacement (ev_var rfl) hr) ?_)
  refine ws_seq (ws_par (s1 := .ls [ndU old new []]) (s2 := dcN w (kvU old new [[]])) (ev_lst (ea_cons (ev_tup (ea_cons ev_str (ea_cons (e_start_states (ev_var rfl) hr) ea_nil)) z2) ea_nil) z1) (ev_ndisp (e_start_states (ev_var rfl) hr) ev_bool (okK_sq hr (hokU []))) ?_)
  refine ws_frz 1 rfl ?_
  refine ws_seq (ws_while (fun m τ => ∃ (A level : List (List Nat)) (n : Nat) (x3 x4 x5 x6 x7 : SD), τ = [.dt (rep old new), .dt (.list (level.map (ndU old new))), dcN w (kvU old new (A ++ level)), x3, x4, x5, x6, x7] ∧ Srch (stU old new) gdU (A ++ level) A.length ∧
      ((A ++ level).map (stU old new)).Nodup ∧ (∀ t ∈ level, t.length = n) ∧ n ≤ A.length ∧ m = 2 * (256 - (A ++ level).length) + (if level = [] then 0 else 1)) (2 * (256 - 1) + 1)
    ⟨[], [[]], 0, _, _, _, _, _, rfl, Srch.start, by simp, by simp, Nat.le_refl _, rfl⟩ ?_)
  rintro m τ ⟨A, level, n, x3, x4, x5, x6, x7, rfl, hS, hnd, hlen, hnA, rfl⟩
  have hab : ∀ t ∈ level, abc t := fun t ht => hS.ab t (List.mem_append_right _ ht)
  have hN20 := U_len hr hnd
  refine ⟨!level.isEmpty, ?_, fun hb => ?_, fun hb => ?_⟩
  · refine et_test (ev_is (ev_op (ev_var rfl) (EvX.frz (ev_lst ea_nil (Nat.zero_le _))) (od_neD ((sh_list (n := 4) fun d hd => ?_).ok (by decide)) ((sh_list (n := 1) (ds := []) fun d hd => by cases hd).ok (by decide)))) ?_)
    · obtain ⟨t, ht, rfl⟩ := List.mem_map.mp hd
      exact sh_ndU hr (hab t ht)
    · cases level <;> rfl
  · have hne : level ≠ [] := fun z => by rw [z] at hb; cases hb
    rw [if_neg hne]
    refine ws_seq (ws_set (ev_lst ea_nil (Nat.zero_le _)) ?_)
    refine ws_seq (ws_for (ie_list (ev_var rfl)) (fun i τ => ∃ (longer : List (List Nat)) (x4 x5 x6 x7 : SD), τ = [.dt (rep old new), .dt (.list (level.map (ndU old new))), dcN w (kvU old new (A ++ level ++ longer)), .ls (longer.map (ndU old new)), x4, x5, x6, x7] ∧
        Srch (stU old new) gdU (A ++ level ++ longer) (A.length + i) ∧ ((A ++ level ++ longer).map (stU old new)).Nodup ∧ (∀ r ∈ longer, r.length = n + 1) ∧ ∀ r ∈ longer, ∀ (j : Nat) (y : List Nat), i ≤ j → level[j]? = some y → rk r < 3 * rk y + 1)
      ⟨[], _, _, _, _, by rw [List.append_nil]; rfl, by rw [List.append_nil]; exact hS, by rw [List.append_nil]; exact hnd, fun r hr => by (cases hr), fun r hr => by (cases hr)⟩ ?_ ?_)
    · rintro i x τ hx ⟨longer, y4, y5, y6, y7, rfl, hS1, hnd1, hl1, hk1⟩
      obtain ⟨t, ht, rfl⟩ := map_get hx
      have htm := List.mem_of_getElem? ht
      have hta := hab t htm
      have htl := hlen t htm
      have hil := (List.getElem?_eq_some_iff.mp ht).1
      have hNt : (A ++ level ++ longer)[A.length + i]? = some t := by
        rw [List.getElem?_append_left (by rw [List.length_append]; omega), List.getElem?_append_right (by omega), show A.length + i - A.length = i by omega]
        exact ht
      have hfound : gdU (stU old new t) → SD.dt (T t) = SD.dt (optT o) := fun hg => by
        rw [← (hS1.found (fun u v c => stU_nd) hNt hg).uniq ho]
        rfl
      refine ⟨_, tg_tup (tgs_cons tg_name (tgs_cons tg_name tgs_nil)) rfl, ?_⟩
      have hbase : ∀ r ∈ A ++ level, rk r ≤ 3 * rk t := fun r hr => by
        rcases List.mem_append.mp hr with hra | hrl
        · obtain ⟨q, hq⟩ := List.mem_iff_getElem?.mp hra
          have hql := (List.getElem?_eq_some_iff.mp hq).1
          have := hS1.srt q (A.length + i) r t (by omega) (by rw [List.append_assoc, List.getElem?_append_left hql]; exact hq) hNt
          omega
        · exact rk_same n r t (hlen r hrl) htl (hab r hrl) hta
      refine ws_seq (ws_if (b := !((stU old new t).any fun st => decide (st.2 = 0))) (et_not (et_B (e_is_complete (S := stU old new t) (ev_var rfl) (ok_len hr (hokU t) (stU_ok ho1 t).1)))) (fun hb => ws_ret (ev_var rfl) (hfound ?_)) (fun hb => ws_next ?_))
      · intro z; rw [z] at hb; cases hb
      · have hng : ¬ gdU (stU old new t) := fun z => z (by
          cases hq : (stU old new t).any fun st => decide (st.2 = 0) with
          | true => rfl
          | false => rw [hq] at hb; cases hb)
        refine ws_forN (in_str ev_str) (fun k τ => ∃ (longer : List (List Nat)) (x6 x7 : SD), τ = [.dt (rep old new), .dt (.list (level.map (ndU old new))), dcN w (kvU old new (A ++ level ++ longer)), .ls (longer.map (ndU old new)), .dt (T t), .dt (sqD (stU old new t)), x6, x7] ∧
          Srch (stU old new) gdU (A ++ level ++ longer) (A.length + i) ∧ ((A ++ level ++ longer).map (stU old new)).Nodup ∧ (∀ r ∈ longer, r.length = n + 1) ∧ (∀ r ∈ longer, rk r < 3 * rk t + 1 + k) ∧ ∀ c, 97 ≤ c → c < 97 + k → ∃ r ∈ A ++ level ++ longer, stU old new r = stU old new (t ++ [c]) ∧ rk r ≤ rk (t ++ [c]))
          ⟨longer, _, _, rfl, hS1, hnd1, hl1, fun r hr => by have := hk1 r hr i t (Nat.le_refl _) ht; omega, fun c h1 h2 => by omega⟩ ?_ ?_
        · rintro k x τ hx ⟨lg, z6, z7, rfl, hS2, hnd2, hl2, hk2, hc2⟩
          obtain ⟨c, hc, rfl⟩ := signs_get hx
          have hck : c = 97 + k ∧ k < 3 := by
            match k, hc with
            | 0, hc => cases hc; exact ⟨rfl, by decide⟩
            | 1, hc => cases hc; exact ⟨rfl, by decide⟩
            | 2, hc => cases hc; exact ⟨rfl, by decide⟩
          obtain ⟨hck, hk3⟩ := hck
          have hcs : c = 97 ∨ c = 98 ∨ c = 99 := by omega
          have hlt20 := U_len hr hnd2
          have hst : sqD (srtQ (nxG old new c (stU old new t))) = sqD (stU old new (t ++ [c])) := by rw [stU_app]
          have hrk : rk (t ++ [c]) = 3 * rk t + 1 + k := by rw [rk_app]; omega
          have hall : ∀ r ∈ A ++ level ++ lg, rk r < rk (t ++ [c]) := fun r hr => by
            rw [hrk]
            rcases List.mem_append.mp hr with z | z
            · have := hbase r z; omega
            · exact hk2 r z
          refine ⟨_, tg_name, ?_⟩
          refine ws_seq (ws_set (sd := .dt (sqD (stU old new (t ++ [c])))) (ev_is (e_all_ways (S := stU old new t) (ev_var rfl) (ev_var rfl) (ev_var rfl) hr (hokU t)) hst) ?_)
          have hokk := okK_sq hr (hokU (t ++ [c]))
          refine ws_ifNi (kvs := kvU old new (A ++ level ++ lg)) (i := 2) rfl (ev_var rfl) hokk (fun hni => ?_) (fun hin => ?_)
          · have hni2 : stU old new (t ++ [c]) ∉ (A ++ level ++ lg).map (stU old new) := fun z => hni (kvU_mem.mpr z)
            refine ws_seq (ws_nput (kvs := kvU old new (A ++ level ++ lg)) (i := 2) rfl (ev_var rfl) hokk ev_bool hni (by unfold kvU; rw [List.length_map]; omega) ?_)
            refine ws_append (i := 3) rfl (d := ndU old new (t ++ [c])) (ev_tup (ea_cons (ev_op (ev_var rfl) (ev_var rfl) (od_addT (by simp only [List.length_append, List.length_singleton] at hlt20 ⊢; omega))) (ea_cons (ev_var rfl) ea_nil)) z2) (by rw [List.length_map]; simp only [List.length_append] at hlt20; omega) ?_
            have hd2 : kvU old new (A ++ level ++ lg) ++ [(sqD (stU old new (t ++ [c])), .bool true)] = kvU old new (A ++ level ++ (lg ++ [t ++ [c]])) := by
              rw [← List.append_assoc]; unfold kvU; simp only [List.map_append, List.map_cons, List.map_nil]
            refine ⟨lg ++ [t ++ [c]], .dt (T [c]), .dt (sqD (stU old new (t ++ [c]))), ?_, ?_, ?_, ?_, ?_, ?_⟩
            · rw [← hd2, List.map_append, List.map_singleton]; rfl
            · rw [← List.append_assoc]
              exact hS2.more (by rw [List.length_append, List.length_append]; omega) (abc_app hta (abc_cons hcs abc_nil)) hall
            · rw [← List.append_assoc, List.map_append, List.map_singleton]
              refine List.nodup_append.mpr ⟨hnd2, by simp, fun a ha b hb => ?_⟩
              rw [List.mem_singleton.mp hb]
              exact fun z => hni2 (z ▸ ha)
            · intro r hr
              rcases List.mem_append.mp hr with z | z
              · exact hl2 r z
              · rw [List.mem_singleton.mp z, List.length_append, List.length_singleton]; omega
            · intro r hr
              rcases List.mem_append.mp hr with z | z
              · have := hk2 r z; omega
              · rw [List.mem_singleton.mp z, hrk]; omega
            · intro c' h1 h2
              rcases Nat.lt_or_ge c' (97 + k) with z | z
              · obtain ⟨r, q1, q2⟩ := hc2 c' h1 z
                exact ⟨r, by rw [← List.append_assoc]; exact List.mem_append_left _ q1, q2⟩
              · have e : c' = c := by omega
                subst e
                exact ⟨t ++ [c'], by rw [← List.append_assoc]; exact List.mem_append_right _ (List.mem_singleton.mpr rfl), rfl, Nat.le_refl _⟩
          · refine ws_next ⟨lg, _, _, rfl, hS2, hnd2, hl2, fun r hr => by have := hk2 r hr; omega, fun c' h1 h2 => ?_⟩
            rcases Nat.lt_or_ge c' (97 + k) with z | z
            · exact hc2 c' h1 z
            · have e : c' = c := by omega
              subst e
              obtain ⟨r, q1, q2⟩ := List.mem_map.mp (kvU_mem.mp hin)
              exact ⟨r, q1, q2, Nat.le_of_lt (hall r q1)⟩
        · rintro τ ⟨lg, z6, z7, rfl, hS2, hnd2, hl2, hk2, hc2⟩
          have hNt2 : (A ++ level ++ lg)[A.length + i]? = some t := by
            rw [List.getElem?_append_left (by rw [List.length_append]; omega), List.getElem?_append_right (by omega), show A.length + i - A.length = i by omega]
            exact ht
          have h3 : (signs (tx [97, 98, 99])).length = 3 := rfl
          rw [h3] at hk2 hc2
          refine ⟨lg, _, _, _, _, rfl, hS2.next hNt2 hng fun c hc => hc2 c (by omega) (by omega), hnd2, hl2, fun r hr j y hj hy => ?_⟩
          have hjl := (List.getElem?_eq_some_iff.mp hy).1
          have h1 := hk2 r hr
          have h2 := hS2.srt (A.length + i) (A.length + j) t y (by omega) hNt2 (by
            rw [List.getElem?_append_left (by rw [List.length_append]; omega), List.getElem?_append_right (by omega), show A.length + j - A.length = j by omega]
            exact hy)
          omega
    · rintro τ ⟨longer, y4, y5, y6, y7, rfl, hS1, hnd1, hl1, hk1⟩
      have hN2 := U_len hr hnd1
      refine ws_frz 3 rfl (ws_set (ev_var rfl) ⟨_, ?_, A ++ level, longer, n + 1, _, _, _, _, _, rfl, ?_, hnd1, hl1, ?_, rfl⟩)
      · have hpos : 0 < level.length := List.length_pos_iff.mpr hne
        simp only [List.length_append] at hN2 ⊢
        by_cases z : longer = []
        · rw [if_pos z, z, List.length_nil]; omega
        · have : 0 < longer.length := List.length_pos_iff.mpr z
          rw [if_neg z]; omega
      · rw [List.length_map] at hS1
        rw [List.length_append]
        exact hS1
      · have hpos : 0 < level.length := List.length_pos_iff.mpr hne
        rw [List.length_append]; omega
  · have hle : level = [] := by cases level with
      | nil => rfl
      | cons a b => cases hb
    refine ws_ret ev_none ?_
    show SD.dt .none = SD.dt (optT o)
    rw [← (hS.done (fun u v c => stU_nd) (by rw [hle, List.append_nil]; exact Nat.le_refl _)).uniq ho]
    rfl
theorem e_unreached_text {old new : List Nat} {o : Option (List Nat)} (ha : EvS K ta τ (rep old new)) (h : Rp old new) (ho : IsFirst (fun t => ¬ Rch old new t) o) : EvX K (tCallS (spD K F_unreached_text) E (tCons ta tNil)) τ (.dt (optT o)) :=
  ev_call (ea_cons ha ea_nil) ⟨old, new, o, rfl, h, ho, rfl⟩
end
end Sw
/-! part SxM -/
set_option Elab.async false
set_option linter.all false
set_option maxRecDepth 100000
set_option maxHeartbeats 4000000
namespace Sw
/-! ## signs exchanged -/
def is3 (c : Nat) : Prop := c = 97 ∨ c = 98 ∨ c = 99
structure Tn (f g : Nat → Nat) : Prop where
  gf : ∀ n, g (f n) = n
  fg : ∀ n, f (g n) = n
  fa : ∀ c, is3 c → is3 (f c)
  ga : ∀ c, is3 c → is3 (g c)
theorem Tn.symm {f g : Nat → Nat} (h : Tn f g) : Tn g f := ⟨h.fg, h.gf, h.ga, h.fa⟩
def tnF (x y z : Nat) (n : Nat) : Nat := if n = 97 then x else if n = 98 then y else if n = 99 then z else n
theorem tn_mk {x y z x' y' z' : Nat} (h1 : is3 x) (h2 : is3 y) (h3 : is3 z) (k1 : is3 x') (k2 : is3 y') (k3 : is3 z') (e1 : tnF x' y' z' x = 97) (e2 : tnF x' y' z' y = 98) (e3 : tnF x' y' z' z = 99) (g1 : tnF x y z x' = 97) (g2 : tnF x y z y' = 98) (g3 : tnF x y z z' = 99) : Tn (tnF x y z) (tnF x' y' z') := by
  have key : ∀ {x y z x' y' z' : Nat}, tnF x' y' z' x = 97 → tnF x' y' z' y = 98 → tnF x' y' z' z = 99 → ∀ n, tnF x' y' z' (tnF x y z n) = n := fun {x y z x' y' z'} e1 e2 e3 n => by
    by_cases a : n = 97
    · rw [show tnF x y z n = x by unfold tnF; rw [if_pos a], e1, a]
    · by_cases b : n = 98
      · rw [show tnF x y z n = y by unfold tnF; rw [if_neg a, if_pos b], e2, b]
      · by_cases c : n = 99
        · rw [show tnF x y z n = z by unfold tnF; rw [if_neg a, if_neg b, if_pos c], e3, c]
        · have e : ∀ x y z, tnF x y z n = n := fun x y z => by unfold tnF; rw [if_neg a, if_neg b, if_neg c]
          rw [e, e]
  have ka : ∀ {x y z : Nat}, is3 x → is3 y → is3 z → ∀ c, is3 c → is3 (tnF x y z c) := fun {x y z} h1 h2 h3 c hc => by
    rcases hc with rfl | rfl | rfl
    · exact h1
    · exact h2
    · exact h3
  exact ⟨key e1 e2 e3, key g1 g2 g3, ka h1 h2 h3, ka k1 k2 k3⟩
theorem tn_0 : Tn (tnF 97 98 99) (tnF 97 98 99) := by apply tn_mk <;> first | rfl | (unfold is3; decide)
theorem tn_1 : Tn (tnF 98 99 97) (tnF 99 97 98) := by apply tn_mk <;> first | rfl | (unfold is3; decide)
theorem tn_2 : Tn (tnF 99 97 98) (tnF 98 99 97) := tn_1.symm
theorem tn_3 : Tn (tnF 98 97 99) (tnF 98 97 99) := by apply tn_mk <;> first | rfl | (unfold is3; decide)
theorem tn_4 : Tn (tnF 97 99 98) (tnF 97 99 98) := by apply tn_mk <;> first | rfl | (unfold is3; decide)
theorem tn_5 : Tn (tnF 99 98 97) (tnF 99 98 97) := by apply tn_mk <;> first | rfl | (unfold is3; decide)
section
variable {f g : Nat → Nat} (h : Tn f g)
include h
theorem Tn.inj {a b : Nat} (e : f a = f b) : a = b := by rw [← h.gf a, e, h.gf]
theorem Tn.map_gf (t : List Nat) : (t.map f).map g = t := by
  rw [List.map_map]
  conv => rhs; rw [← List.map_id t]
  exact List.map_congr_left fun a _ => h.gf a
theorem Tn.map_inj {a b : List Nat} (e : a.map f = b.map f) : a = b := by rw [← h.map_gf a, e, h.map_gf]
theorem Tn.abcM {t : List Nat} (ht : abc t) : abc (t.map f) := fun c hc => by
  obtain ⟨d, hd, rfl⟩ := List.mem_map.mp hc
  exact h.fa d (ht d hd)
theorem Tn.pre {a t : List Nat} : a.map f <+: t.map f ↔ a <+: t := by
  constructor
  · rintro ⟨r, hr⟩
    have := congrArg (List.map g) hr
    rw [List.map_append, h.map_gf, h.map_gf] at this
    exact ⟨_, this⟩
  · rintro ⟨r, rfl⟩
    exact ⟨r.map f, by rw [List.map_append]⟩
theorem Tn.inf {a t : List Nat} : a.map f <:+: t.map f ↔ a <:+: t := by
  constructor
  · rintro ⟨l, r, hr⟩
    have := congrArg (List.map g) hr
    rw [List.map_append, List.map_append, h.map_gf, h.map_gf] at this
    exact ⟨_, _, this⟩
  · rintro ⟨l, r, rfl⟩
    exact ⟨l.map f, r.map f, by rw [List.map_append, List.map_append]⟩
theorem Tn.rslM (old new : List Nat) : ∀ (t : List Nat) (k : Nat), rsl (old.map f) (new.map f) k (t.map f) = (rsl old new k t).map f
  | [], k => by cases k <;> rfl
  | c :: t, k + 1 => by
    show rsl (old.map f) (new.map f) (k + 1) (f c :: t.map f) = (rsl old new (k + 1) (c :: t)).map f
    rw [rsl, rsl, Tn.rslM old new t k]
  | c :: t, 0 => by
    show rsl (old.map f) (new.map f) 0 (f c :: t.map f) = (rsl old new 0 (c :: t)).map f
    have hp : old.map f <+: (f c :: t.map f) ↔ old <+: (c :: t) := h.pre (a := old) (t := c :: t)
    rw [rsl, rsl]
    by_cases z : old <+: (c :: t)
    · rw [if_pos (List.isPrefixOf_iff_prefix.mpr (hp.mpr z)), if_pos (List.isPrefixOf_iff_prefix.mpr z), List.map_append, List.length_map, Tn.rslM old new t _]
    · rw [if_neg (fun q => z (hp.mp (List.isPrefixOf_iff_prefix.mp q))), if_neg (fun q => z (List.isPrefixOf_iff_prefix.mp q)), List.map_cons, Tn.rslM old new t 0]
theorem Tn.resM (old new t : List Nat) : result (old.map f) (new.map f) (t.map f) = (result old new t).map f := h.rslM old new t 0
theorem Tn.rp {old new : List Nat} (hr : Rp old new) : Rp (old.map f) (new.map f) := ⟨by rw [List.length_map]; exact hr.o1, by rw [List.length_map]; exact hr.o4, by rw [List.length_map]; exact hr.n4, h.abcM hr.oa, h.abcM hr.na⟩
end
end Sw
/-! part SxN -/
set_option Elab.async false
set_option linter.all false
set_option maxRecDepth 100000
set_option maxHeartbeats 4000000
namespace Sw
/-! ## how long the first unreached text is: computed -/
def canonS (old new : List Nat) (S : List ST) : List ST := (allSt old new).filter fun st => decide (st ∈ S)
def badS (S : List ST) : Bool := S.all fun st => !decide (st.2 = 0)
def nxC (old new : List Nat) (c : Nat) (S : List ST) : List ST := canonS old new (nxG old new c S)
def addS (kl : List (List ST) × List (List ST)) (S : List ST) : List (List ST) × List (List ST) := if S ∈ kl.1 then kl else (S :: kl.1, S :: kl.2)
def succS (old new : List Nat) (level : List (List ST)) : List (List ST) := level.flatMap fun S => [97, 98, 99].map fun c => nxC old new c S
def lvlC (old new : List Nat) : Nat → List (List ST) → List (List ST) → Bool
  | 0, _, _ => false
  | n + 1, known, level => level.any badS || (((succS old new level).foldl addS (known, [])).2.isEmpty || lvlC old new n ((succS old new level).foldl addS (known, [])).1 ((succS old new level).foldl addS (known, [])).2)
def chkU (old new : List Nat) : Bool := badS (old.foldl (fun S c => nxC old new c S) [([], 0)]) || lvlC old new 8 [[([], 0)]] [[([], 0)]]
section
variable {old new : List Nat}
def SetOk (old new r : List Nat) (S : List ST) : Prop := ∀ st, st ∈ S ↔ ∃ s, Src old new r s st
theorem set_next (h : 1 ≤ old.length) {r : List Nat} {c : Nat} {S : List ST} (H : SetOk old new r S) : SetOk old new (r ++ [c]) (nxC old new c S) := by
  have key : ∀ st, st ∈ nxG old new c S ↔ ∃ s, Src old new (r ++ [c]) s st := by
    intro st
    rw [nxG_mem]
    constructor
    · rintro (z | ⟨h1, h2, st0, h3, h4, h5⟩)
      · obtain ⟨st0, h1, p, hpw⟩ := nxt_mem.mp z
        obtain ⟨s, hs⟩ := (H st0).mp h1
        exact ⟨s ++ p, src_go h hs hpw⟩
      · obtain ⟨st1, k1, p, hpw⟩ := nxt_mem.mp h3
        obtain ⟨s, hs⟩ := (H st1).mp k1
        have hs := src_go h hs hpw
        obtain ⟨e1, e2⟩ := (src_empty h1).mp hs
        rw [e2] at h5
        obtain ⟨m1, m2⟩ := mput_res h h5
        refine ⟨s ++ p ++ old, (src_empty h1).mpr ⟨?_, ?_⟩⟩
        · rw [m2, e1, h1, List.append_nil]
        · rw [h2, m1]
    · rintro ⟨s, hs⟩
      by_cases hn : new = []
      · obtain ⟨e1, e2⟩ := (src_empty hn).mp hs
        rw [e2]
        rcases empty_back h hn (N := nxt old new c S) (fun u hu hc => nxt_mem.mpr ⟨(pnd old new u, 0), (H _).mpr ⟨u, (src_empty hn).mpr ⟨hu, rfl⟩⟩, [c], ways_mem.mpr (.inr (.inl ⟨rfl, hc, rfl, rfl⟩))⟩) _ s rfl e1 with z | ⟨z1, z2⟩
        · exact .inl z
        · exact .inr ⟨hn, by rw [z1], z2⟩
      · obtain ⟨s0, st0, p, h1, h2, _⟩ := src_back h hn hs
        exact .inl (nxt_mem.mpr ⟨st0, (H st0).mpr ⟨s0, h1⟩, p, h2⟩)
  intro st
  unfold nxC canonS
  rw [List.mem_filter, decide_eq_true_iff, key st]
  exact ⟨fun z => z.2, fun z => ⟨okSt_all (by obtain ⟨s, hs⟩ := z; exact src_ok h hs), z⟩⟩
theorem bad_iff {r : List Nat} {S : List ST} (H : SetOk old new r S) : badS S = true ↔ ¬ Rch old new r := by
  unfold badS
  rw [List.all_eq_true]
  constructor
  · rintro h ⟨s, rfl⟩
    have := h (pnd old new s, 0) ((H _).mpr ⟨s, src_of s⟩)
    simp at this
  · intro h st hs
    obtain ⟨s, hs⟩ := (H st).mp hs
    rcases hs with ⟨a, e, _⟩ | ⟨z, _⟩
    · exact absurd ⟨s, e⟩ h
    · simp; omega
theorem set_start (h : 1 ≤ old.length) : SetOk old new [] [([], 0)] := (sts_nilG h).2
theorem set_fold (h : 1 ≤ old.length) : ∀ (t r : List Nat) (S : List ST), SetOk old new r S → SetOk old new (r ++ t) (t.foldl (fun S c => nxC old new c S) S)
  | [], r, S, H => by rw [List.append_nil]; exact H
  | c :: t, r, S, H => by
    have := set_fold h t (r ++ [c]) (nxC old new c S) (set_next h H)
    rw [List.append_assoc] at this
    exact this
theorem addS_all : ∀ (L known lg : List (List ST)), (∀ S ∈ lg, S ∈ known) → (∀ S ∈ known, S ∈ (L.foldl addS (known, lg)).1) ∧ (∀ S ∈ L, S ∈ (L.foldl addS (known, lg)).1) ∧ (∀ S ∈ (L.foldl addS (known, lg)).1, S ∈ known ∨ S ∈ (L.foldl addS (known, lg)).2) ∧ (∀ S ∈ (L.foldl addS (known, lg)).2, S ∈ lg ∨ S ∈ L) ∧ (∀ S ∈ lg, S ∈ (L.foldl addS (known, lg)).2) ∧ ∀ S ∈ (L.foldl addS (known, lg)).2, S ∈ (L.foldl addS (known, lg)).1
  | [], known, lg, h0 => ⟨fun S h => h, fun S h => (by cases h), fun S h => .inl h, fun S h => .inl h, fun S h => h, h0⟩
  | x :: L, known, lg, h0 => by
    show (∀ S ∈ known, S ∈ (L.foldl addS (addS (known, lg) x)).1) ∧ (∀ S ∈ x :: L, S ∈ (L.foldl addS (addS (known, lg) x)).1) ∧ (∀ S ∈ (L.foldl addS (addS (known, lg) x)).1, S ∈ known ∨ S ∈ (L.foldl addS (addS (known, lg) x)).2) ∧ (∀ S ∈ (L.foldl addS (addS (known, lg) x)).2, S ∈ lg ∨ S ∈ x :: L) ∧ (∀ S ∈ lg, S ∈ (L.foldl addS (addS (known, lg) x)).2) ∧ ∀ S ∈ (L.foldl addS (addS (known, lg) x)).2, S ∈ (L.foldl addS (addS (known, lg) x)).1
    by_cases hx : x ∈ known
    · have e : addS (known, lg) x = (known, lg) := if_pos hx
      rw [e]
      obtain ⟨a, b, c, d, f, g⟩ := addS_all L known lg h0
      refine ⟨a, fun S hS => ?_, c, fun S hS => (d S hS).elim .inl fun z => .inr (List.mem_cons_of_mem _ z), f, g⟩
      rcases List.mem_cons.mp hS with z | z
      · rw [z]; exact a x hx
      · exact b S z
    · have e : addS (known, lg) x = (x :: known, x :: lg) := if_neg hx
      rw [e]
      obtain ⟨a, b, c, d, f, g⟩ := addS_all L (x :: known) (x :: lg) fun S hS => by
        rcases List.mem_cons.mp hS with z | z
        · rw [z]; exact List.mem_cons_self
        · exact List.mem_cons_of_mem _ (h0 S z)
      refine ⟨fun S hS => a S (List.mem_cons_of_mem _ hS), fun S hS => ?_, fun S hS => ?_, fun S hS => ?_, fun S hS => f S (List.mem_cons_of_mem _ hS), g⟩
      · rcases List.mem_cons.mp hS with z | z
        · rw [z]; exact a x List.mem_cons_self
        · exact b S z
      · rcases c S hS with z | z
        · rcases List.mem_cons.mp z with z | z
          · rw [z]; exact .inr (f x List.mem_cons_self)
          · exact .inl z
        · exact .inr z
      · rcases d S hS with z | z
        · rcases List.mem_cons.mp z with z | z
          · rw [z]; exact .inr List.mem_cons_self
          · exact .inl z
        · exact .inr (List.mem_cons_of_mem _ z)
theorem succ_mem {level : List (List ST)} {S : List ST} : S ∈ succS old new level ↔ ∃ S0 ∈ level, ∃ c, is3 c ∧ S = nxC old new c S0 := by
  unfold succS
  rw [List.mem_flatMap]
  constructor
  · rintro ⟨S0, h1, h2⟩
    obtain ⟨c, hc, rfl⟩ := List.mem_map.mp h2
    refine ⟨S0, h1, c, ?_, rfl⟩
    simpa [is3] using hc
  · rintro ⟨S0, h1, c, hc, rfl⟩
    refine ⟨S0, h1, List.mem_map.mpr ⟨c, ?_, rfl⟩⟩
    simpa [is3] using hc
theorem lvl_sound (h : 1 ≤ old.length) : ∀ (n d : Nat) (known level : List (List ST)), [([], 0)] ∈ known → (∀ S ∈ level, S ∈ known) → (∀ S ∈ level, ∃ r, abc r ∧ r.length ≤ d ∧ SetOk old new r S) →
    (∀ S ∈ known, S ∉ level → badS S = false ∧ ∀ c, is3 c → nxC old new c S ∈ known) → lvlC old new n known level = true → (∃ r, abc r ∧ r.length ≤ d + n ∧ ¬ Rch old new r) ∨ ∀ r, abc r → Rch old new r
  | 0, d, known, level, _, _, _, _, hl => by cases hl
  | n + 1, d, known, level, h0, h1, h2, h3, hl => by
    rw [lvlC] at hl
    cases hb : level.any badS with
    | true =>
      obtain ⟨S, hS, hbS⟩ := List.any_eq_true.mp hb
      obtain ⟨r, ha, hr, hk⟩ := h2 S hS
      exact .inl ⟨r, ha, by omega, (bad_iff hk).mp hbS⟩
    | false =>
      rw [hb, Bool.false_or] at hl
      have hgood : ∀ S ∈ level, badS S = false := fun S hS => by
        cases hq : badS S with
        | false => rfl
        | true => rw [List.any_eq_true.mpr ⟨S, hS, hq⟩] at hb; cases hb
      obtain ⟨a, b, c, dd, f, g⟩ := addS_all (succS old new level) known [] (fun S hS => by cases hS)
      generalize (succS old new level).foldl addS (known, []) = kl at a b c dd f g hl
      obtain ⟨known', lg⟩ := kl
      have hnext : ∀ S ∈ known', S ∉ lg → badS S = false ∧ ∀ c, is3 c → nxC old new c S ∈ known' := fun S hS hn => by
        have hk := (c S hS).resolve_right hn
        by_cases hz : S ∈ level
        · exact ⟨hgood S hz, fun c hc => b _ (succ_mem.mpr ⟨S, hz, c, hc, rfl⟩)⟩
        · obtain ⟨q1, q2⟩ := h3 S hk hz
          exact ⟨q1, fun c hc => a _ (q2 c hc)⟩
      cases he : lg.isEmpty with
      | true =>
        have he := List.isEmpty_iff.mp he
        right
        have key : ∀ r, abc r → ∃ S ∈ known', SetOk old new r S := by
          intro r
          refine rev_ind (P := fun r => abc r → ∃ S ∈ known', SetOk old new r S) (fun _ => ⟨_, a _ h0, set_start h⟩) ?_ r
          intro r c ih ha
          obtain ⟨S, hS, hk⟩ := ih fun x hx => ha x (List.mem_append_left _ hx)
          exact ⟨_, (hnext S hS (by show S ∉ lg; rw [he]; intro z; cases z)).2 c (ha c (List.mem_append_right _ List.mem_cons_self)), set_next h hk⟩
        intro r ha
        obtain ⟨S, hS, hk⟩ := key r ha
        refine Classical.byContradiction fun z => ?_
        have := (bad_iff hk).mpr z
        rw [(hnext S hS (by show S ∉ lg; rw [he]; intro z; cases z)).1] at this
        cases this
      | false =>
        have hl : (lg.isEmpty || lvlC old new n known' lg) = true := hl
        rw [he, Bool.false_or] at hl
        rcases lvl_sound h n (d + 1) known' lg (a _ h0) g (fun S hS => by
          rcases dd S hS with z | z
          · cases z
          · obtain ⟨S0, hS0, c, hc, rfl⟩ := succ_mem.mp z
            obtain ⟨r, ha, hr, hk⟩ := h2 S0 hS0
            exact ⟨r ++ [c], abc_app ha (abc_cons hc abc_nil), by rw [List.length_append, List.length_singleton]; omega, set_next h hk⟩) hnext hl with ⟨r, q1, q2, q3⟩ | z
        · exact .inl ⟨r, q1, by omega, q3⟩
        · exact .inr z
theorem chk_sound (hr : Rp old new) (hc : chkU old new = true) : (∃ r, abc r ∧ r.length ≤ 8 ∧ ¬ Rch old new r) ∨ ∀ r, abc r → Rch old new r := by
  unfold chkU at hc
  rcases (Bool.or_eq_true _ _).mp hc with z | z
  · have H := set_fold (new := new) hr.o1 old [] _ (set_start hr.o1)
    rw [List.nil_append] at H
    exact .inl ⟨old, hr.oa, by have := hr.o4; omega, (bad_iff H).mp z⟩
  · have := lvl_sound hr.o1 8 0 [[([], 0)]] [[([], 0)]] List.mem_cons_self (fun S h => h) (fun S h => ⟨[], abc_nil, Nat.le_refl _, by rw [List.mem_singleton.mp h]; exact set_start hr.o1⟩) (fun S h1 h2 => absurd h1 h2) z
    exact this
end
/-! all replacements, up to exchange of signs -/
def canW : List (List Nat) := [[97], [97, 97], [97, 98], [97, 97, 97], [97, 97, 98], [97, 98, 97], [97, 98, 98], [97, 98, 99],
  [97, 97, 97, 97], [97, 97, 97, 98], [97, 97, 98, 97], [97, 97, 98, 98], [97, 97, 98, 99], [97, 98, 97, 97], [97, 98, 97, 98], [97, 98, 97, 99], [97, 98, 98, 97], [97, 98, 98, 98], [97, 98, 98, 99], [97, 98, 99, 97], [97, 98, 99, 98], [97, 98, 99, 99]]
def tns : List (Nat → Nat) := [tnF 97 98 99, tnF 98 99 97, tnF 99 97 98, tnF 98 97 99, tnF 97 99 98, tnF 99 98 97]
theorem tns_ok : ∀ f ∈ tns, ∃ g, Tn f g := fun f hf => by
  unfold tns at hf
  simp only [List.mem_cons, List.not_mem_nil, or_false] at hf
  rcases hf with rfl | rfl | rfl | rfl | rfl | rfl
  · exact ⟨_, tn_0⟩
  · exact ⟨_, tn_1⟩
  · exact ⟨_, tn_2⟩
  · exact ⟨_, tn_3⟩
  · exact ⟨_, tn_4⟩
  · exact ⟨_, tn_5⟩
theorem can_all : (lv 1 ++ lv 2 ++ lv 3 ++ lv 4).all (fun o => tns.any fun f => canW.contains (o.map f)) = true := by decide +kernel
theorem chk_all : canW.all (fun o => (lv 0 ++ lv 1 ++ lv 2 ++ lv 3 ++ lv 4).all fun n => chkU o n) = true := by decide +kernel
theorem words_mem {t : List Nat} (ha : abc t) (hl : t.length ≤ 4) : t ∈ lv 0 ++ lv 1 ++ lv 2 ++ lv 3 ++ lv 4 := by
  have h := lv_mem.mpr ⟨ha, rfl⟩
  generalize t.length = n at h hl
  simp only [List.mem_append]
  match n, h, hl with
  | 0, h, _ => exact .inl (.inl (.inl (.inl h)))
  | 1, h, _ => exact .inl (.inl (.inl (.inr h)))
  | 2, h, _ => exact .inl (.inl (.inr h))
  | 3, h, _ => exact .inl (.inr h)
  | 4, h, _ => exact .inr h
theorem rch_map {f g : Nat → Nat} (h : Tn f g) {old new r : List Nat} : Rch (old.map f) (new.map f) (r.map f) ↔ Rch old new r := by
  constructor
  · rintro ⟨s, e⟩
    refine ⟨s.map g, h.map_inj ?_⟩
    rw [← h.resM, h.symm.map_gf, e]
  · rintro ⟨s, e⟩
    exact ⟨s.map f, by rw [h.resM, e]⟩
theorem unr_short {old new : List Nat} (hr : Rp old new) : (∃ r, abc r ∧ r.length ≤ 8 ∧ ¬ Rch old new r) ∨ ∀ r, abc r → Rch old new r := by
  have ho : old ∈ lv 1 ++ lv 2 ++ lv 3 ++ lv 4 := by
    have h := words_mem hr.oa hr.o4
    have h1 := hr.o1
    simp only [List.mem_append] at h ⊢
    rcases h with (((h | h) | h) | h) | h
    · have := (lv_mem.mp h).2; omega
    · exact .inl (.inl (.inl h))
    · exact .inl (.inl (.inr h))
    · exact .inl (.inr h)
    · exact .inr h
  obtain ⟨f, hf, hc⟩ := List.any_eq_true.mp (List.all_eq_true.mp can_all old ho)
  obtain ⟨g, hT⟩ := tns_ok f hf
  have hc : old.map f ∈ canW := List.contains_iff_mem.mp hc
  have hr2 := hT.rp hr
  have hk := List.all_eq_true.mp (List.all_eq_true.mp chk_all _ hc) (new.map f) (words_mem hr2.na hr2.n4)
  rcases chk_sound hr2 hk with ⟨r, h1, h2, h3⟩ | z
  · left
    refine ⟨r.map g, hT.symm.abcM h1, by rw [List.length_map]; exact h2, fun z => h3 ?_⟩
    have := (rch_map hT).mpr z
    rwa [hT.symm.map_gf] at this
  · exact .inr fun r ha => (rch_map hT).mp (z _ (hT.abcM ha))
end Sw
/-! part SxO -/
set_option Elab.async false
set_option linter.all false
set_option maxRecDepth 100000
set_option maxHeartbeats 4000000
namespace Sw
open PySem PySem.Spec L2 PyProof.Rows
/-! ## a list times a bool -/
theorem int_rmul_bool (b : Bool) (l : Addr) (items : Array Value) (n : Nat) :
    Meets (Builtin.«int.__rmul__» ⟨[.bool b, .ref l], []⟩) (fun _ R s => s.heap.get? l = some { cls := .type "list", dict := none, data := .seq items n, slots := #[] } ∧ R (.ok (.ret Value.notImplemented)) s) :=
  .of_wp fun prog w A R s h => by obtain ⟨hp, g, d, tk, os⟩ := s; obtain ⟨hl, h⟩ := h; cases b <;> wp_walk <;> exact ⟨_, rfl, h⟩
theorem list_mul_false (l : Addr) (items : Array Value) (n : Nat) :
    Meets (Builtin.«list.__mul__» ⟨[.ref l, .bool false], []⟩) (fun _ R s => s.heap.get? l = some { cls := .type "list", dict := none, data := .seq items n, slots := #[] } ∧ R (.ok (.ret (Value.ref s.heap.objs.size))) { s with heap := s.heap.push { cls := Value.type "list", data := .seq #[] } }) :=
  .of_wp fun prog w A R s h => by
    obtain ⟨hp, g, d, tk, os⟩ := s; obtain ⟨hl, h⟩ := h
    wp_walk
    refine ⟨_, rfl, ?_⟩
    have e : List.foldl (fun x1 x2 => x1 ++ x2) #[] (List.replicate (if items.isEmpty = true then 0 else (if false = true then (1 : Int) else 0).toNat) items) = #[] := by
      have : (if items.isEmpty = true then 0 else (if false = true then (1 : Int) else 0).toNat) = 0 := by split <;> rfl
      rw [this]; rfl
    rw [e]
    exact h
theorem list_mul_true (l : Addr) (items : Array Value) (n : Nat) (hs : items.size ≤ sizeLine) :
    Meets (Builtin.«list.__mul__» ⟨[.ref l, .bool true], []⟩) (fun _ R s => s.heap.get? l = some { cls := .type "list", dict := none, data := .seq items n, slots := #[] } ∧ R (.ok (.ret (Value.ref s.heap.objs.size))) { s with heap := s.heap.push { cls := Value.type "list", data := .seq items } }) :=
  .of_wp fun prog w A R s h => by
    obtain ⟨hp, g, d, tk, os⟩ := s; obtain ⟨hl, h⟩ := h
    have hz : sizeLine = 16777216 := by decide
    have h1 : items.size * (if true = true then (1 : Int) else 0).toNat = items.size := Nat.mul_one _
    have hc1 : ¬ items.size * (if true = true then (1 : Int) else 0).toNat > (2 ^ 63 - 1) / 8 := by rw [h1]; omega
    have hc2 : ¬ Builtin.List.listTooLong (items.size * (if true = true then (1 : Int) else 0).toNat) = true := by
      rw [h1]
      simp [Builtin.List.listTooLong, sizeLine]
      omega
    have hsz := AutoListH.joined_fits hc2
    wp_walk
    refine wpAny_ite_false (decide_eq_false hc1) ?_
    refine wpAny_ite_false (decide_eq_false hc2) ?_
    wp_walk
    refine wpAny_ite_false (decide_eq_false (Nat.not_lt.mpr hsz)) ?_
    wp_walk
    refine ⟨_, rfl, ?_⟩
    have e : List.foldl (fun x1 x2 => x1 ++ x2) #[] (List.replicate (if items.isEmpty = true then 0 else (if true = true then (1 : Int) else 0).toNat) items) = items := by
      by_cases hi : items.isEmpty = true
      · rw [if_pos hi]
        have := Array.isEmpty_iff.mp hi
        rw [this]; rfl
      · rw [if_neg hi]
        show #[] ++ items = items
        simp
    rw [e]
    exact h
def rMulB : R2 := fun x y H Q => ∃ l b xs, x = .ref l ∧ y = .bl b ∧ H l = some (.lst xs) ∧ ∀ p, H p = none → Q (.ref p) (upd H p (.lst (if b = true then xs else [])))
section
variable {X : Cx}
theorem op_mulB : OpR X (binaryOp .Mult) rMulB := by
  intro pins s σ H x y v u Q I rx ry h
  obtain ⟨l, b, xs, rfl, rfl, hH, q⟩ := h
  cases rx
  have ry : u = .bool b := ry
  subst ry
  obtain ⟨z, its, n, r, hl, e⟩ := I.lstM hH
  refine wpAny_binaryOp_repeat_ref (T := "list") (U := "bool") (by decide) ⟨_, e, rfl⟩ (fun s' => rfl) noFill_list_mul F.fills_bool_mul F.slot_bool_rmul repeat_list F.slot_bool_index.lookup
    (call_meets F.slot_bool_rmul rfl F.entry_int_rmul (F.args_int_rmul_2 _ _) (int_rmul_bool b l its.toArray n) ⟨e, rfl, ⟨_, e, rfl⟩, ?_⟩)
  cases b with
  | false => exact call_meets F.slot_list_mul ⟨_, e, rfl⟩ F.entry_list_mul (F.args_list_mul_2 _ _) (list_mul_false l its.toArray n) ⟨e, .ref _, _, I.lnew (t' := s.toks) (its := []) (ys := []) .nil (Nat.zero_le _), rfl, q _ I.fresh⟩
  | true => exact call_meets F.slot_list_mul ⟨_, e, rfl⟩ F.entry_list_mul (F.args_list_mul_2 _ _) (list_mul_true l its.toArray n (by rw [List.size_toArray]; omega)) ⟨e, .ref _, _, I.lnew (t' := s.toks) r (by omega), rfl, q _ I.fresh⟩
end
section
variable {K : PySem.W.Frag}
theorem od_mulB {ds : List PyData} {b : Bool} : OpD K rMulB (.list ds) (.bool b) (.ls (if b = true then ds else [])) := fun B H v u e hx hy Q q => by
  cases hy
  cases hx with
  | lst g1 a1 =>
    refine ⟨_, b, _, rfl, rfl, e _ _ g1, fun p hp => q _ _ _ (Step.own e hp) ?_⟩
    refine ⟨p, _, rfl, hp, upd_same, Same.free e hp, _, rfl, ?_⟩
    cases b with
    | false => exact .nil
    | true => exact a1
end
end Sw
/-! part K12 -/
set_option Elab.async false
set_option linter.all false
set_option maxRecDepth 100000
set_option maxHeartbeats 4000000
namespace Sw
open PySem PySem.Spec L2
local macro_rules | `(tactic| walk_at "sz") => `(tactic| first | assumption | omega | (have hsz := szl; omega) | (have hsz := szl; simp only [List.length_append, List.length_cons, List.length_nil, List.length_take, List.length_drop, List.length_reverse, List.length_map, List.length_range]; omega) | decide)
local macro_rules | `(tactic| walk_at "evF") => `(tactic| fail)
local macro_rules | `(tactic| walk_at "ev1") => `(tactic| first
  | ((with_reducible apply ev_var); exact rfl) | with_reducible exact ev_int | with_reducible exact ev_none | with_reducible exact ev_bool | with_reducible exact ev_str
  | with_reducible exact ea_nil | with_reducible apply ea_cons | with_reducible exact eo_none | with_reducible apply eo_some
  | with_reducible exact et_yes | with_reducible apply et_B | with_reducible apply et_test | with_reducible apply et_not | with_reducible apply et_and | with_reducible apply et_or
  | (refine fun (_ : (_ : Bool) = true) => ?_) | (refine fun (_ : (_ : Bool) = false) => ?_)
  | walk_at "evF"
  | with_reducible apply ev_isi | with_reducible apply ev_op | with_reducible apply ev_cb | with_reducible apply ev_sl | with_reducible apply ev_un | with_reducible apply ev_notV
  | with_reducible apply ev_tup | with_reducible apply ev_lst | ((with_reducible apply EvX.frz); with_reducible apply ev_lst)
  | with_reducible apply ev_revL | with_reducible apply ev_revT | with_reducible apply ev_chain
  | with_reducible exact od_add_int | with_reducible exact od_sub | with_reducible exact od_lt | with_reducible exact od_le | with_reducible exact od_gt | with_reducible exact od_ge | with_reducible exact od_eq_int | with_reducible exact od_ne_int
  | with_reducible exact od_eqT | with_reducible exact od_neT | with_reducible exact od_ltT | with_reducible exact od_eq_bool | with_reducible exact od_ne_bool | with_reducible exact od_isN | with_reducible exact od_ntN | with_reducible exact od_isB | with_reducible exact od_ntB
  | with_reducible refine od_addT ?_ | ((with_reducible apply od_ix_tup); exact rfl) | ((with_reducible apply od_ix_list); exact rfl)
  | with_reducible exact cd_lenL | with_reducible exact cd_lenU | with_reducible exact cd_lenS | with_reducible refine cd_lenT ?_ | with_reducible refine cd_lenZ ?_ | with_reducible exact cd_max2 | with_reducible exact cd_min2 | with_reducible exact cd_all | with_reducible exact cd_any
  | refine sd_Tn rfl (Int.natCast_add _ _).symm ?_ | refine sd_Tn rfl rfl ?_ | refine sd_TLn rfl ?_ | refine sd_TRn rfl ?_
  | with_reducible refine od_mulT ?_ ?_ ?_ | with_reducible refine OpD.frz (od_mul_list ?_ ?_ ?_)
  | (intro z h; cases h; done) | walk_at "sz")
local macro_rules | `(tactic| walk_at "ev") => `(tactic| repeat' walk_at "ev1")
def F_law (ds : List PyData) (sd : SD) : Prop := ∃ ns, ds = [scrD ns] ∧ Sc ns ∧ sd = .dt (.bool true)
theorem len_law : ∀ ds sd, F_law ds sd → ds.length = 1 := by rintro _ _ ⟨_, rfl, _⟩; rfl
def F_law_reaches (ds : List PyData) (sd : SD) : Prop := ∃ old new text b, ds = [rep old new, T text] ∧ Rp old new ∧ abc text ∧ text.length ≤ 12 ∧ (b = true ↔ Rch old new text) ∧ sd = .dt (.bool b)
theorem len_law_reaches : ∀ ds sd, F_law_reaches ds sd → ds.length = 2 := by rintro _ _ ⟨_, _, _, _, rfl, _⟩; rfl
/-! ## the guesses of the law -/
inductive GsE (old new : List Nat) : List Nat → List Nat → Prop
  | nil : GsE old new [] []
  | last : new = [] → GsE old new [] old
  | lit {c t s} : GsE old new t s → GsE old new (c :: t) (c :: s)
  | pre {c t s} : new = [] → GsE old new t s → GsE old new (c :: t) (old ++ c :: s)
  | put {t s} : new ≠ [] → GsE old new t s → GsE old new (new ++ t) (old ++ s)
inductive G0 (old : List Nat) : List Nat → List Nat → Prop
  | nil : G0 old [] []
  | lit {c r s} : G0 old r s → G0 old (r ++ [c]) (s ++ [c])
  | pre {c r s} : G0 old r s → G0 old (r ++ [c]) (s ++ old ++ [c])
section
variable {old new : List Nat}
theorem g0_app (hn : new = []) {r s : List Nat} (h : G0 old r s) : ∀ t e, GsE old new t e → GsE old new (r ++ t) (s ++ e) := by
  induction h with
  | nil => intro t e g; exact g
  | @lit c r s _ ih =>
    intro t e g
    rw [List.append_assoc, List.append_assoc]
    exact ih _ _ (.lit g)
  | @pre c r s _ ih =>
    intro t e g
    rw [List.append_assoc, List.append_assoc, List.append_assoc]
    exact ih _ _ (.pre hn g)
theorem g0_ex (h : 1 ≤ old.length) (hn : new = []) : ∀ (n : Nat) (s : List Nat), s.length = n → ∃ s', (G0 old (result old new s) s' ∨ (pnd old new s' = [] ∧ ∃ s0, G0 old (result old new s) s0 ∧ s' = s0 ++ old)) ∧ result old new s' = result old new s ∧ pnd old new s' = pnd old new s := by
  intro n
  induction n using Nat.strongRecOn with
  | _ n ih =>
    intro s hs
    rcases last_or s with rfl | ⟨u, d, rfl⟩
    · have e2 : result old new [] = [] := rsl_short (by rw [List.length_nil]; omega)
      exact ⟨[], .inl (by rw [e2]; exact .nil), rfl, rfl⟩
    · by_cases hc : pnd old new u ++ [d] = old
      · obtain ⟨v, hv, hm⟩ := cpl_form h (t := u ++ [d]) ⟨u, d, rfl, hc⟩
        obtain ⟨m1, m2⟩ := mput_res h hm
        rw [hv] at hs ⊢
        have m3 : result old new (v ++ old) = result old new v := by rw [m2, hn, List.append_nil]
        rw [List.length_append] at hs
        rw [m3, m1]
        obtain ⟨s', h1, h2, h3⟩ := ih v.length (by omega) v rfl
        rcases h1 with h1 | ⟨h0, h1⟩
        · have hm' : mput old new (pnd old new s') old = true := by rw [h3]; exact hm
          obtain ⟨q1, q2⟩ := mput_res h hm'
          exact ⟨s' ++ old, .inr ⟨q1, s', h1, rfl⟩, by rw [q2, h2, hn, List.append_nil], q1⟩
        · exact ⟨s', .inr ⟨h0, h1⟩, h2, h0⟩
      · obtain ⟨s', h1, h2, h3⟩ := ih u.length (by rw [← hs, List.length_append, List.length_singleton]; omega) u rfl
        have hc' : pnd old new s' ++ [d] ≠ old := by rw [h3]; exact hc
        rw [res_lit h hc, pnd_app]
        refine ⟨s' ++ [d], .inl ?_, by rw [res_lit h hc', h2], by rw [pnd_app, h3]⟩
        rcases h1 with h1 | ⟨_, s0, h1, e⟩
        · exact .lit h1
        · rw [e]; exact .pre h1
theorem gse_of (hn : new ≠ []) {t s : List Nat} (h : Gs old new t s) : GsE old new t s := by
  induction h with
  | nil => exact .nil
  | lit _ ih => exact .lit ih
  | put _ ih => exact .put hn ih
theorem gse_ex (h : 1 ≤ old.length) {text : List Nat} (hr : Rch old new text) : ∃ s, GsE old new text s ∧ result old new s = text := by
  obtain ⟨s, rfl⟩ := hr
  by_cases hn : new = []
  · obtain ⟨s', h1, h2, _⟩ := g0_ex h hn _ s rfl
    refine ⟨s', ?_, h2⟩
    rcases h1 with h1 | ⟨_, s0, h1, e⟩
    · have := g0_app hn h1 [] [] .nil
      rwa [List.append_nil, List.append_nil] at this
    · have := g0_app hn h1 [] old (.last hn)
      rw [List.append_nil] at this
      rw [e]; exact this
  · exact ⟨s, gse_of hn (gs_result h _ s rfl), rfl⟩
def grow2 (old new text : List Nat) (x : GR) : List GR := if x.2 = text.length then [] else (x.1 ++ [text.getD x.2 0], x.2 + 1) :: (if new = [] then [(x.1 ++ old ++ [text.getD x.2 0], x.2 + 1)] else if (text.drop x.2).take new.length = new then [(x.1 ++ old, x.2 + new.length)] else [])
def endsR (old new : List Nat) (b : List Nat) : List (List Nat) := [b] ++ (if new = [] then [b ++ old] else [])
def hitR (old new text : List Nat) (x : GR) : Bool := decide (x.2 = text.length) && (endsR old new x.1).any fun e => decide (result old new e = text)
def GR2 (text : List Nat) (x : GR) : Prop := abc x.1 ∧ x.2 ≤ text.length ∧ x.1.length ≤ 5 * x.2
def Wit (old new text : List Nat) (x : GR) : Prop := ∃ s, GsE old new (text.drop x.2) s ∧ result old new (x.1 ++ s) = text
theorem grow2_ok (hr : Rp old new) {text : List Nat} (ha : abc text) {x : GR} (hx : GR2 text x) : ∀ y ∈ grow2 old new text x, GR2 text y ∧ x.2 + 1 ≤ y.2 := by
  obtain ⟨h1, h2, h3⟩ := hx
  have ho4 := hr.o4
  intro y hy
  unfold grow2 at hy
  split at hy
  · cases hy
  · rename_i hp
    have hlt : x.2 < text.length := by omega
    have hc : abc [text.getD x.2 0] := abc_cons (by
      rw [List.getD_eq_getElem?_getD, List.getElem?_eq_getElem hlt]
      exact ha _ (List.getElem_mem hlt)) abc_nil
    rcases List.mem_cons.mp hy with e | hy
    · rw [e]
      refine ⟨⟨abc_app h1 hc, by show x.2 + 1 ≤ _; omega, ?_⟩, Nat.le_refl _⟩
      rw [List.length_append, List.length_singleton]; show _ ≤ 5 * (x.2 + 1); omega
    · split at hy
      · rw [List.mem_singleton.mp hy]
        refine ⟨⟨abc_app (abc_app h1 hr.oa) hc, by show x.2 + 1 ≤ _; omega, ?_⟩, Nat.le_refl _⟩
        rw [List.length_append, List.length_append, List.length_singleton]; show _ ≤ 5 * (x.2 + 1); omega
      · rename_i hn
        have hnl : 1 ≤ new.length := List.length_pos_iff.mpr hn
        split at hy
        · rename_i ht
          rw [List.mem_singleton.mp hy]
          have hl := congrArg List.length ht
          rw [List.length_take, List.length_drop] at hl
          refine ⟨⟨abc_app h1 hr.oa, by show x.2 + new.length ≤ _; omega, ?_⟩, by show _ ≤ x.2 + new.length; omega⟩
          rw [List.length_append]; show _ ≤ 5 * (x.2 + new.length); omega
        · cases hy
theorem grow2_len (text : List Nat) (x : GR) : (grow2 old new text x).length ≤ 2 := by
  unfold grow2
  split
  · exact Nat.zero_le _
  · split
    · simp
    · split <;> simp
theorem wit_step {text : List Nat} {x : GR} (hx : x.2 ≤ text.length) (hw : Wit old new text x) (hh : hitR old new text x = false) : ∃ y ∈ grow2 old new text x, Wit old new text y := by
  obtain ⟨s, hg, e⟩ := hw
  obtain ⟨b, p⟩ := x
  by_cases hp : p = text.length
  · exfalso
    have hd : text.drop p = [] := by rw [hp, List.drop_length]
    have hg : GsE old new (text.drop p) s := hg
    rw [hd] at hg
    have hm : s = [] ∨ (new = [] ∧ s = old) := by
      generalize hu : ([] : List Nat) = u at hg
      cases hg with
      | nil => exact .inl rfl
      | last hn => exact .inr ⟨hn, rfl⟩
      | lit _ => cases hu
      | pre _ _ => cases hu
      | put hn _ => exact absurd (List.append_eq_nil_iff.mp hu.symm).1 hn
    have hin : b ++ s ∈ endsR old new b := by
      unfold endsR
      rcases hm with rfl | ⟨hn, rfl⟩
      · rw [List.append_nil]; exact List.mem_append_left _ List.mem_cons_self
      · rw [if_pos hn]; exact List.mem_append_right _ List.mem_cons_self
    have : hitR old new text (b, p) = true := by
      unfold hitR
      rw [Bool.and_eq_true]
      exact ⟨decide_eq_true hp, List.any_eq_true.mpr ⟨_, hin, decide_eq_true e⟩⟩
    rw [this] at hh; cases hh
  · have hgr : grow2 old new text (b, p) = (b ++ [text.getD p 0], p + 1) :: (if new = [] then [(b ++ old ++ [text.getD p 0], p + 1)] else if (text.drop p).take new.length = new then [(b ++ old, p + new.length)] else []) := if_neg hp
    have hx : p ≤ text.length := hx
    have hg : GsE old new (text.drop p) s := hg
    have e : result old new (b ++ s) = text := e
    generalize hu : text.drop p = u at hg
    rw [hgr]
    cases hg with
    | nil => have := List.drop_eq_nil_iff.mp hu; omega
    | last _ => have := List.drop_eq_nil_iff.mp hu; omega
    | @lit c t s g =>
      obtain ⟨e1, e2⟩ := getD_drop hu
      refine ⟨_, List.mem_cons_self, s, ?_, ?_⟩
      · show GsE old new (text.drop (p + 1)) s; rw [e2]; exact g
      · show result old new (b ++ [text.getD p 0] ++ s) = text
        rw [e1, List.append_assoc]; exact e
    | @pre c t s hn g =>
      obtain ⟨e1, e2⟩ := getD_drop hu
      refine ⟨(b ++ old ++ [text.getD p 0], p + 1), ?_, s, ?_, ?_⟩
      · rw [if_pos hn]; exact List.mem_cons_of_mem _ List.mem_cons_self
      · show GsE old new (text.drop (p + 1)) s; rw [e2]; exact g
      · show result old new (b ++ old ++ [text.getD p 0] ++ s) = text
        rw [e1, List.append_assoc, List.append_assoc]; exact e
    | @put t s hn g =>
      have e2 : text.drop (p + new.length) = t := by rw [← List.drop_drop, hu, List.drop_left]
      refine ⟨(b ++ old, p + new.length), ?_, s, ?_, ?_⟩
      · rw [if_neg hn, if_pos (by rw [hu, List.take_left])]
        exact List.mem_cons_of_mem _ List.mem_cons_self
      · show GsE old new (text.drop (p + new.length)) s; rw [e2]; exact g
      · show result old new (b ++ old ++ s) = text
        rw [List.append_assoc]; exact e
theorem res_same (h1 : 1 ≤ old.length) : ∀ (n : Nat) (t : List Nat), t.length = n → result old old t = t := by
  intro n
  induction n using Nat.strongRecOn with
  | _ n ih =>
    intro t ht
    have hne : old ≠ [] := fun z => by rw [z] at h1; cases h1
    cases t with
    | nil => exact rsl_short (by rw [List.length_nil]; omega)
    | cons c r =>
      by_cases hp : old <+: (c :: r)
      · have e2 : result old old (c :: r) = old ++ result old old ((c :: r).drop old.length) := rsl_yes hne hp
        have hl := hp.length_le
        have hd : ((c :: r).drop old.length).length = (c :: r).length - old.length := List.length_drop
        rw [e2, ih _ (by rw [← ht, hd]; omega) ((c :: r).drop old.length) rfl]
        obtain ⟨q, hq⟩ := hp
        rw [← hq, List.drop_left]
      · have e2 : result old old (c :: r) = c :: result old old r := rsl_no hp
        rw [e2, ih r.length (by rw [← ht, List.length_cons]; omega) r rfl]
noncomputable def rchB (old new t : List Nat) : Bool := @decide (Rch old new t) (Classical.propDecidable _)
theorem rchB_iff {t : List Nat} : rchB old new t = true ↔ Rch old new t := by unfold rchB; exact @decide_eq_true_iff _ (Classical.propDecidable _)
/-- the texts of at most four signs that are not reached -/
noncomputable def missU (old new : List Nat) : List (List Nat) := (txs 4).filter fun t => !rchB old new t
theorem miss_mem {t : List Nat} : t ∈ missU old new ↔ (abc t ∧ t.length ≤ 4) ∧ ¬ Rch old new t := by
  unfold missU
  rw [List.mem_filter, txs_mem, ← rchB_iff]
  cases rchB old new t <;> simp
theorem miss_first {x : List Nat} {r : List (List Nat)} {o : Option (List Nat)} (e : missU old new = x :: r) (ho : IsFirst (fun t => ¬ Rch old new t) o) : o = some x := by
  have hx := miss_mem.mp (show x ∈ missU old new by rw [e]; exact List.mem_cons_self)
  have hs : (missU old new).Pairwise fun a b => rk a < rk b := (txs_sorted 4).filter _
  rw [e, List.pairwise_cons] at hs
  refine ho.uniq (b := some x) ⟨hx.1.1, hx.2, fun v hv hl hg => ?_⟩
  have hle : v.length ≤ x.length := by
    rcases Nat.lt_or_ge x.length v.length with z | z
    · have := rk_short _ x v rfl hx.1.1 hv z; omega
    · exact z
  have hm : v ∈ missU old new := miss_mem.mpr ⟨⟨hv, by have := hx.1.2; omega⟩, hg⟩
  rw [e] at hm
  rcases List.mem_cons.mp hm with z | z
  · rw [z] at hl; omega
  · have := hs.1 v z; omega
theorem first_len (hr : Rp old new) {x : List Nat} (ho : IsFirst (fun t => ¬ Rch old new t) (some x)) : x.length ≤ 8 := by
  rcases unr_short hr with ⟨r, h1, h2, h3⟩ | z
  · rcases Nat.lt_or_ge r.length x.length with q | q
    · exact absurd h3 (ho.2.2 r h1 (rk_short _ r x rfl h1 ho.1 q))
    · omega
  · exact absurd (z x ho.1) ho.2.1
end
theorem first_a : IsFirst (fun t => ¬ Rch [97] [97, 97] t) (some [97]) := by
  have h1 : 1 ≤ [97].length := by decide
  refine ⟨by unfold abc; decide, ?_, fun v hv hl hg => ?_⟩
  · have H := set_fold (old := [97]) (new := [97, 97]) h1 [97] [] _ (set_start h1)
    exact (bad_iff H).mp (by decide +kernel)
  · have e : rk [97] = 1 := rfl
    rw [e] at hl
    have hv0 : v = [] := rk_inj _ v [] rfl hv abc_nil (by show rk v = 0; omega)
    rw [hv0] at hg
    exact hg ⟨[], rfl⟩
theorem first_n : IsFirst (fun t => ¬ Rch [97] [97] t) none := fun t _ hg => hg ⟨t, res_same (by decide) _ t rfl⟩
def t_law_reaches (K : PySem.W.Frag) (W : WX) : TS :=
  (tSeq (tAsg (tVar 0) (gTup K 2 (gCons (gName 2) (gCons (gName 3) gNil))))
    (tSeq (tAsg (tLst (tCons (tTup (tCons (tC (.str (tx []))) (tCons (tC (.int 0)) tNil))) tNil)) (gName 4))
    (tSeq (tWhile (tTest (tOp (rNeU K) (tVar 4) (tLst tNil))) (tSeq (tAsg (tLst tNil) (gName 5))
    (tSeq (tFor (iList K (tVar 4)) (gTup K 2 (gCons (gName 6) (gCons (gName 7) gNil))) (tIfS (tTest (tOp (rEqU K) (tVar 7) (tCB (rLenU K) (tCons (tVar 1) tNil)))) (tSeq (tAsg (tOp (rAddU K) (tLst (tCons (tVar 6) tNil)) (tOp rMulB (tLst (tCons (tOp (rAddU K) (tVar 6) (tVar 2)) tNil)) (tOp (rEqU K) (tVar 3) (tC (.str (tx [])))))) (gName 8))
    (tIfS (tB (tCB (rAny K) (tCons (tLc (iList K (tVar 8)) (gName 9) tYes (tOp (rEqU K) (tCallS (spD K F_law_done) (WE W0) (tCons (tVar 0) (tCons (tVar 9) tNil))) (tVar 1)) [9]) tNil))) (tRet (tC (.bl true))) tNext)) (tSeq (tDrop (tBM K "list" rAppend (tVar 5) (tCons (tTup (tCons (tOp (rAddU K) (tVar 6) (tOp (rIx K) (tVar 1) (tVar 7))) (tCons (tOp (rAddU K) (tVar 7) (tC (.int 1))) tNil))) tNil)))
    (tIfS (tTest (tOp (rEqU K) (tVar 3) (tC (.str (tx []))))) (tDrop (tBM K "list" rAppend (tVar 5) (tCons (tTup (tCons (tOp (rAddU K) (tOp (rAddU K) (tVar 6) (tVar 2)) (tOp (rIx K) (tVar 1) (tVar 7))) (tCons (tOp (rAddU K) (tVar 7) (tC (.int 1))) tNil))) tNil))) (tIfS (tTest (tOp (rEqU K) (tSl (rSlU K) (tVar 1) (tPart (tVar 7)) (tPart (tOp (rAddU K) (tVar 7) (tCB (rLenU K) (tCons (tVar 3) tNil))))) (tVar 3))) (tDrop (tBM K "list" rAppend (tVar 5) (tCons (tTup (tCons (tOp (rAddU K) (tVar 6) (tVar 2)) (tCons (tOp (rAddU K) (tVar 7) (tCB (rLenU K) (tCons (tVar 3) tNil))) tNil))) tNil))) tNext)))))
    (tAsg (tVar 5) (gName 4)))))
    (tRet (tC (.bl false))))))
def t_law (K : PySem.W.Frag) (W : WX) : TS :=
  (tSeq (tFor (iRng1 (tCons (tC (.int 2)) tNil)) (gName 1) (tSeq (tAsg (tCallS (spD K F_law_step) (WE W) (tCons (tVar 0) (tCons (tOp (rMulU K) (tC (.int 30)) (tVar 1)) tNil))) (gName 2))
    (tSeq (tIfS (tTest (tOp (rEqU K) (tCallS (spD K F_law_pick) (WE W) (tCons (tVar 0) (tCons (tOp (rAddU K) (tOp (rMulU K) (tC (.int 30)) (tVar 1)) (tC (.int 20))) (tCons (tC (.int 3)) tNil)))) (tC (.int 0)))) (tAsg (tTup (tCons (tOp (rIx K) (tVar 2) (tC (.int 0))) (tCons (tC (.str (tx []))) tNil))) (gName 2)) tNext)
    (tSeq (tAsg (tLst tNil) (gName 3))
    (tSeq (tFor (iList K (tCallS (spD K F_law_texts) (WE W) (tCons (tC (.int 4)) tNil))) (gName 4) (tSeq (tAsg (tCallS (spD K F_law_reaches) (WE W) (tCons (tVar 2) (tCons (tVar 4) tNil))) (gName 5))
    (tSeq (tIfS (tTest (tOp (rNeU K) (tCallS (spD K F_is_reached) (WE W) (tCons (tVar 2) (tCons (tVar 4) tNil))) (tVar 5))) (tRet (tC (.bl false))) tNext)
    (tIfS (tNot (tB (tVar 5))) (tDrop (tBM K "list" rAppend (tVar 3) (tCons (tVar 4) tNil))) tNext))))
    (tSeq (tFor (iRng1 (tCons (tC (.int 3)) tNil)) (gName 6) (tSeq (tAsg (tCallS (spD K F_law_word) (WE W) (tCons (tVar 0) (tCons (tOp (rAddU K) (tOp (rAddU K) (tOp (rMulU K) (tC (.int 30)) (tVar 1)) (tC (.int 21))) (tOp (rMulU K) (tC (.int 8)) (tVar 6))) (tCons (tC (.int 5)) (tCons (tC (.int 7)) tNil))))) (gName 4))
    (tIfS (tTest (tOp (rNeU K) (tCallS (spD K F_is_reached) (WE W) (tCons (tVar 2) (tCons (tVar 4) tNil))) (tCallS (spD K F_law_reaches) (WE W) (tCons (tVar 2) (tCons (tVar 4) tNil))))) (tRet (tC (.bl false))) tNext)))
    (tSeq (tAsg (tCallS (spD K F_unreached_text) (WE W) (tCons (tVar 2) tNil)) (gName 7))
    (tSeq (tIfS (tAnd (tTest (tOp (rNeU K) (tVar 3) (tLst tNil))) (tTest (tOp (rNeU K) (tVar 7) (tOp (rIx K) (tVar 3) (tC (.int 0)))))) (tRet (tC (.bl false))) tNext)
    (tSeq (tIfS (tAnd (tTest (tOp (rEqU K) (tVar 3) (tLst tNil))) (tTest (tOp rNtU (tVar 7) (tC .non)))) (tIfS (tOr (tNot (tB (tCallS (spD K F_is_text) (WE W) (tCons (tVar 7) tNil)))) (tOr (tTest (tOp rLtU (tCB (rLenU K) (tCons (tVar 7) tNil)) (tC (.int 5)))) (tTest (tOp rNtU (tCallS (spD K F_is_reached) (WE W) (tCons (tVar 2) (tCons (tVar 7) tNil))) (tC (.bl false)))))) (tRet (tC (.bl false))) tNext) tNext)
    (tSeq (tAsg (tLc (iRng1 (tCons (tC (.int 3)) tNil)) (gName 9) tYes (tCallS (spD K F_law_word) (WE W0) (tCons (tVar 0) (tCons (tOp (rAddU K) (tC (.int 90)) (tOp (rMulU K) (tC (.int 9)) (tVar 9))) (tCons (tC (.int 6)) (tCons (tC (.int 8)) tNil))))) [9]) (gName 8))
    (tIfS (tAnd (tTest (tOp rIsU (tVar 7) (tC .non))) (tNot (tB (tCB (rAll K) (tCons (tLc (iList K (tVar 8)) (gName 4) tYes (tCallS (spD K F_is_reached) (WE W0) (tCons (tVar 2) (tCons (tVar 4) tNil))) [4]) tNil))))) (tRet (tC (.bl false))) tNext)))))))))))
    (tRet (tAndV (tOp (rEqU K) (tCallS (spD K F_unreached_text) (WE W) (tCons (tTup (tCons (tC (.str (tx [97]))) (tCons (tC (.str (tx [97, 97]))) tNil))) tNil)) (tC (.str (tx [97])))) (tOp rIsU (tCallS (spD K F_unreached_text) (WE W) (tCons (tTup (tCons (tC (.str (tx [97]))) (tCons (tC (.str (tx [97]))) tNil))) tNil)) (tC .non)))))
section
variable {K : PySem.W.Frag} {W : WX} {w : World} {ds : List PyData} {sd : SD} {τ : Tau} {ta tb tc td : TE} {E : St → XK}
theorem neB_self {b c : Bool} (h : b = c) : PyData.bool (!decide (b = c)) = .bool false := by rw [decide_eq_true h]; rfl
def grD (x : GR) : PyData := .tuple [T x.1, .int ((x.2 : Nat) : Int)]
theorem ws_law_reaches (h : F_law_reaches ds sd) : WS K (t_law_reaches K W) (startD 10 ds) (retE W sd) := by
  obtain ⟨old, new, text, bb, rfl, hr, ha, hl, hbb, rfl⟩ := h
  show WS K (t_law_reaches K W) [.dt (rep old new), .dt (T text), .no, .no, .no, .no, .no, .no, .no, .no] _
  unfold t_law_reaches
  have hz := szl
  have ho1 := hr.o1
  have ho4 := hr.o4
  have hn4 := hr.n4
  have z1 : (1 : Nat) ≤ sizeLine := by decide
  have z2 : (2 : Nat) ≤ sizeLine := by decide
  have hpow : ∀ i, i ≤ 13 → 2 ^ i ≤ 8192 := fun i hi => Nat.le_trans (Nat.pow_le_pow_right (by decide) hi) (by decide)
  refine ws_seq (ws_asg (ev_var rfl) (tg_tup (tgs_cons tg_name (tgs_cons tg_name tgs_nil)) rfl) ?_)
  refine ws_seq (ws_set (sd := .dt (.list ([([], 0)].map grD))) (EvX.frz (ev_lst (ea_cons (ev_tup (ea_cons ev_str (ea_cons ev_int ea_nil)) z2) ea_nil) z1)) ?_)
  refine ws_seq (ws_while (fun m τ => ∃ (rows : List GR) (i : Nat) (x5 x6 x7 x8 x9 : SD), τ = [.dt (rep old new), .dt (T text), .dt (T old), .dt (T new), .dt (.list (rows.map grD)), x5, x6, x7, x8, x9] ∧ (∀ x ∈ rows, GR2 text x ∧ i ≤ x.2) ∧ rows.length ≤ 2 ^ i ∧ i + m = text.length + 1 ∧ (Rch old new text → ∃ x ∈ rows, Wit old new text x)) (text.length + 1)
    ⟨[([], 0)], 0, _, _, _, _, _, rfl, fun x hx => by rw [List.mem_singleton.mp hx]; exact ⟨⟨abc_nil, Nat.zero_le _, Nat.le_refl _⟩, Nat.le_refl _⟩, Nat.le_refl _, by omega, fun hq => by
      obtain ⟨s, g, e⟩ := gse_ex ho1 hq
      exact ⟨([], 0), List.mem_cons_self, s, by rw [List.drop_zero]; exact g, e⟩⟩ ?_)
  rintro m τ ⟨rows, i, x5, x6, x7, x8, x9, rfl, hok, hrl, him, hwit⟩
  refine ⟨!rows.isEmpty, ?_, fun hb => ?_, fun hb => ?_⟩
  · refine et_test (ev_is (ev_op (ev_var rfl) (EvX.frz (ev_lst ea_nil (Nat.zero_le _))) (od_neD ((sh_list (n := 2) fun d hd => ?_).ok (by decide)) ((sh_list (n := 1) (ds := []) fun d hd => by cases hd).ok (by decide)))) ?_)
    · obtain ⟨x, hx, rfl⟩ := List.mem_map.mp hd
      refine sh_tuple fun d hd => ?_
      simp only [List.mem_cons, List.not_mem_nil, or_false] at hd
      rcases hd with rfl | rfl
      · exact sh_T (hok x hx).1.1
      · exact sh_int
    · cases rows <;> rfl
  · have hne : rows ≠ [] := fun z => by rw [z] at hb; cases hb
    have hiL : i ≤ text.length := by
      obtain ⟨x, hx⟩ := List.exists_mem_of_ne_nil rows hne
      obtain ⟨⟨_, h2, _⟩, h3⟩ := hok x hx
      omega
    have hp13 := hpow i (by omega)
    refine ws_seq (ws_set (sd := .ls []) (ev_lst ea_nil (Nat.zero_le _)) ?_)
    refine ws_seq (ws_for (ie_list (ev_var rfl)) (fun j τ => ∃ x6 x7 x8 x9, τ = [.dt (rep old new), .dt (T text), .dt (T old), .dt (T new), .dt (.list (rows.map grD)), .ls (((rows.take j).flatMap (grow2 old new text)).map grD), x6, x7, x8, x9] ∧ ∀ x ∈ rows.take j, hitR old new text x = false) ⟨_, _, _, _, rfl, fun x hx => by rw [List.take_zero] at hx; cases hx⟩ ?_ ?_)
    · rintro j x τ hx ⟨y6, y7, y8, y9, rfl, hnh⟩
      obtain ⟨y, hy, rfl⟩ := map_get hx
      obtain ⟨⟨g1, g2, g3⟩, g4⟩ := hok y (List.mem_of_getElem? hy)
      obtain ⟨b, p⟩ := y
      have g1 : abc b := g1
      have g2 : p ≤ text.length := g2
      have g3 : b.length ≤ 5 * p := g3
      refine ⟨_, tg_tup (tgs_cons tg_name (tgs_cons tg_name tgs_nil)) rfl, ?_⟩
      have htl : (rows.take j).length ≤ rows.length := List.length_take_le' _ _
      have hgl : ((rows.take j).flatMap (grow2 old new text)).length ≤ rows.length * 2 := Nat.le_trans (flat_len fun x _ => grow2_len text x) (Nat.mul_le_mul_right 2 htl)
      have eg : (rows.take (j + 1)).flatMap (grow2 old new text) = (rows.take j).flatMap (grow2 old new text) ++ grow2 old new text (b, p) := by
        rw [take_step hy, List.flatMap_append]; simp
      have hnh2 : hitR old new text (b, p) = false → ∀ x ∈ rows.take (j + 1), hitR old new text x = false := fun hf x hx => by
        rw [take_step hy] at hx
        rcases List.mem_append.mp hx with z | z
        · exact hnh x z
        · rw [List.mem_singleton.mp z]; exact hf
      rw [eg]
      refine ws_if (b := decide (p = text.length)) (et_is (et_test (ev_op (ev_var rfl) (ev_cb (ea_cons (ev_var rfl) ea_nil) (cd_lenT (by omega))) od_eq_int)) (by rw [Bool.eq_iff_iff, decide_eq_true_iff, decide_eq_true_iff]; omega)) (fun hc => ?_) (fun hc => ?_)
      · have hc := of_decide_eq_true hc
        have e2 : grow2 old new text (b, p) = [] := if_pos hc
        rw [e2, List.append_nil]
        have hel : ∀ e ∈ endsR old new b, e.length ≤ 100 := fun e he => by
          unfold endsR at he
          rcases List.mem_append.mp he with z | z
          · rw [List.mem_singleton.mp z]; omega
          · split at z
            · rw [List.mem_singleton.mp z, List.length_append]; omega
            · cases z
        have hen : (endsR old new b).length ≤ 2 := by unfold endsR; split <;> simp
        have hends : EvX K (tOp (rAddU K) (tLst (tCons (tVar 6) tNil)) (tOp rMulB (tLst (tCons (tOp (rAddU K) (tVar 6) (tVar 2)) tNil)) (tOp (rEqU K) (tVar 3) (tC (.str (tx [])))))) [some (rep old new), some (T text), some (T old), some (T new), some (.list (rows.map grD)), none, some (T b), some (.int ((p : Nat) : Int)), y8.dv, y9.dv] (.ls ((endsR old new b).map T)) := by
          refine ev_isL (ev_op (EvX.frz (ev_lst (ds := [T b]) (ea_cons (ev_var rfl) ea_nil) z1)) (EvX.frz (ev_op (EvX.frz (ev_lst (ds := [T (b ++ old)]) (ea_cons (ev_op (ev_var rfl) (ev_var rfl) (od_addT (by omega))) ea_nil) z1)) (ev_op (ev_var rfl) (ev_str (z := tx [])) (od_eqT (b := []))) od_mulB)) (od_add_list ?_)) ?_
          · split <;> (show 1 + _ ≤ _; simp; omega)
          · unfold endsR
            by_cases hn : new = []
            · rw [if_pos (decide_eq_true hn), if_pos hn]; rfl
            · rw [if_neg (by simpa using hn), if_neg hn]; rfl
        refine ws_seq (ws_set (sd := .dt (.list ((endsR old new b).map T))) (EvX.frz hends) ?_)
        refine ws_if (b := (endsR old new b).any fun e => decide (result old new e = text)) (et_B (ev_is (ev_cb (ea_cons (EvX.frz (ev_isL (ev_lcM (l := endsR old new b) (d := T) (fun e => .bool (decide (result old new e = text))) (ie_list (ev_var rfl)) (by omega) fun e he => ⟨_, te_name (by decide), ev_op (e_law_done (ev_var rfl) (ev_var rfl) hr (by unfold Fit; have := hel e he; omega)) (ev_var rfl) od_eqT⟩) (ds' := ((endsR old new b).map fun e => decide (result old new e = text)).map PyData.bool) (by rw [List.map_map]; rfl))) ea_nil) cd_any) (by rw [List.any_map]; rfl))) (fun hd => ?_) (fun hd => ws_next ?_)
        · obtain ⟨e, he, hq⟩ := List.any_eq_true.mp hd
          have hR : bb = true := hbb.mpr ⟨e, of_decide_eq_true hq⟩
          rw [hR]
          exact ws_ret ev_bool rfl
        · exact ⟨_, _, _, _, rfl, hnh2 (by unfold hitR; show (decide (p = text.length) && _) = false; rw [hd, Bool.and_false])⟩
      · have hc := of_decide_eq_false hc
        have hlt : p < text.length := by omega
        have hnh3 := hnh2 (by unfold hitR; show (decide (p = text.length) && _) = false; rw [decide_eq_false hc, Bool.false_and])
        have hg : text[p]? = some (text.getD p 0) := by rw [List.getD_eq_getElem?_getD, List.getElem?_eq_getElem hlt]; rfl
        have e2 : grow2 old new text (b, p) = (b ++ [text.getD p 0], p + 1) :: (if new = [] then [(b ++ old ++ [text.getD p 0], p + 1)] else if (text.drop p).take new.length = new then [(b ++ old, p + new.length)] else []) := if_neg hc
        rw [e2]
        generalize text.getD p 0 = c at hg ⊢
        refine ws_seq (ws_append (i := 5) rfl (d := grD (b ++ [c], p + 1)) (ev_is (ev_tup (ea_cons (ev_op (ev_var rfl) (ev_op (ev_var rfl) (ev_var rfl) (od_ixT (by omega) (atI_nat hg))) (od_addT (by rw [List.length_singleton]; omega))) (ea_cons (ev_op (ev_var rfl) ev_int od_add_int) ea_nil)) z2) rfl) (by rw [List.length_map]; omega) ?_)
        refine ws_if (b := decide (new = [])) (et_test (ev_op (ev_var rfl) (ev_str (z := tx [])) (od_eqT (b := [])))) (fun hd => ?_) (fun hd => ?_)
        · have hd := of_decide_eq_true hd
          rw [if_pos hd]
          refine ws_append (i := 5) rfl (d := grD (b ++ old ++ [c], p + 1)) (ev_is (ev_tup (ea_cons (ev_op (ev_op (ev_var rfl) (ev_var rfl) (od_addT (by omega))) (ev_op (ev_var rfl) (ev_var rfl) (od_ixT (by omega) (atI_nat hg))) (od_addT (by rw [List.length_singleton, List.length_append]; omega))) (ea_cons (ev_op (ev_var rfl) ev_int od_add_int) ea_nil)) z2) rfl) (by rw [List.length_append, List.length_map, List.length_singleton]; omega) ⟨.dt (T b), .dt (.int ((p : Nat) : Int)), y8, y9, ?_, hnh3⟩
          rw [List.map_append]
          simp
        · have hd := of_decide_eq_false hd
          rw [if_neg hd]
          refine ws_if (b := decide ((text.drop p).take new.length = new)) (et_test (ev_is (ev_op (ev_sl (ev_var rfl) (eo_some (ev_var rfl)) (eo_some (ev_is (ev_op (ev_var rfl) (ev_cb (ea_cons (ev_var rfl) ea_nil) (cd_lenT (by omega))) od_add_int) (d' := .int ((p + new.length : Nat) : Int)) (by congr 1))) (sd_T2 (by omega))) (ev_var rfl) od_eqT) (by rw [Nat.add_sub_cancel_left]))) (fun he => ?_) (fun he => ?_)
          · have he := of_decide_eq_true he
            rw [if_pos he]
            refine ws_append (i := 5) rfl (d := grD (b ++ old, p + new.length)) (ev_is (ev_tup (ea_cons (ev_op (ev_var rfl) (ev_var rfl) (od_addT (by omega))) (ea_cons (ev_op (ev_var rfl) (ev_cb (ea_cons (ev_var rfl) ea_nil) (cd_lenT (by omega))) od_add_int) ea_nil)) z2) rfl) (by rw [List.length_append, List.length_map, List.length_singleton]; omega) ⟨.dt (T b), .dt (.int ((p : Nat) : Int)), y8, y9, ?_, hnh3⟩
            rw [List.map_append]
            simp
          · have he := of_decide_eq_false he
            rw [if_neg he]
            refine ws_next ⟨.dt (T b), .dt (.int ((p : Nat) : Int)), y8, y9, ?_, hnh3⟩
            rw [List.map_append]
            simp
    · rintro τ ⟨y6, y7, y8, y9, rfl, hnh⟩
      rw [List.length_map, List.take_length] at hnh ⊢
      refine ws_frz 5 rfl ?_
      refine ws_set (ev_var rfl) ⟨m - 1, by omega, rows.flatMap (grow2 old new text), i + 1, _, _, _, _, _, rfl, fun y hy => ?_, ?_, by omega, fun hq => ?_⟩
      · obtain ⟨x, hx, hy⟩ := List.mem_flatMap.mp hy
        obtain ⟨k1, k2⟩ := hok x hx
        obtain ⟨k3, k4⟩ := grow2_ok hr ha k1 y hy
        exact ⟨k3, by omega⟩
      · have := flat_len (f := grow2 old new text) (k := 2) (l := rows) fun x _ => grow2_len text x
        rw [Nat.pow_succ]
        omega
      · obtain ⟨x, hx, hw⟩ := hwit hq
        obtain ⟨y, hy, hw2⟩ := wit_step (hok x hx).1.2.1 hw (hnh x hx)
        exact ⟨y, List.mem_flatMap.mpr ⟨x, hx, hy⟩, hw2⟩
  · have he : rows = [] := by
      cases rows with
      | nil => rfl
      | cons a b => cases hb
    have hF : bb = false := by
      cases hq : bb with
      | false => rfl
      | true =>
        obtain ⟨x, hx, _⟩ := hwit (hbb.mp hq)
        rw [he] at hx; cases hx
    rw [hF]
    exact ws_ret ev_bool rfl
theorem e_law_reaches {old new text : List Nat} {b : Bool} (ha : EvS K ta τ (rep old new)) (hb : EvS K tb τ (T text)) (hr : Rp old new) (h1 : abc text) (h2 : text.length ≤ 12) (h : b = true ↔ Rch old new text) : EvX K (tCallS (spD K F_law_reaches) E (tCons ta (tCons tb tNil))) τ (.dt (.bool b)) := ev_call (ea_cons ha (ea_cons hb ea_nil)) ⟨old, new, text, b, rfl, hr, h1, h2, h, rfl⟩
theorem atK {α : Type} {l : List α} {n : Nat} {a : α} (h : l[n]? = some a) : atI l ((n : Nat) : Int) = some a := by
  have hn := (List.getElem?_eq_some_iff.mp h).1
  unfold atI ixN
  rw [if_pos (by omega), if_pos (by omega)]
  show l[((n : Int)).toNat]? = _
  rw [Int.toNat_natCast, h]
theorem eqv_nil (l : List (List Nat)) : PyData.eqv (.list (l.map T)) (.list []) = l.isEmpty := by cases l <;> rfl
theorem ws_law (h : F_law ds sd) : WS K (t_law K W) (startD 10 ds) (retE W sd) := by
  obtain ⟨ns, rfl, hn, rfl⟩ := h
  show WS K (t_law K W) [.dt (scrD ns), .no, .no, .no, .no, .no, .no, .no, .no, .no] _
  unfold t_law
  have hz := szl
  have z1 : (1 : Nat) ≤ sizeLine := by decide
  have z2 : (2 : Nat) ≤ sizeLine := by decide
  have hsh0 : SeqAt.shaped (.list []) = true := (sh_list (n := 1) (ds := []) fun d hd => by cases hd).ok (by decide)
  refine ws_seq (ws_forN (xs := rng 0 2) (in_range1 (n := 2) (ea_cons ev_int ea_nil) (by decide) (by decide)) (fun _ τ => ∃ x1 x2 x3 x4 x5 x6 x7 x8 x9, τ = [.dt (scrD ns), x1, x2, x3, x4, x5, x6, x7, x8, x9]) ⟨_, _, _, _, _, _, _, _, _, rfl⟩ ?_ ?_)
  · rintro i x τ hx ⟨x1, x2, x3, x4, x5, x6, x7, x8, x9, rfl⟩
    obtain ⟨hi, rfl⟩ := rng_get hx
    refine ⟨_, tg_name, ?_⟩
    refine ws_seq (ws_set (e_law_step (k := 30 * (0 + (i : Int))) (ev_var rfl) (ev_op ev_int (ev_var rfl) (od_mul_int (.inl ⟨by decide, by decide⟩))) hn (by omega)) ?_)
    have hr0 := step_rp ns (30 * (0 + (i : Int)))
    generalize (stepOf ns (30 * (0 + (i : Int)))).1 = old at hr0 ⊢
    generalize (stepOf ns (30 * (0 + (i : Int)))).2 = new0 at hr0 ⊢
    refine ws_mid (fun τ => ∃ new, Rp old new ∧ τ = [.dt (scrD ns), .dt (.int (0 + (i : Int))), .dt (rep old new), x3, x4, x5, x6, x7, x8, x9]) ?_ ?_
    · refine ws_if (b := decide ((pickN ns (30 * (0 + (i : Int)) + 20) 3 : Int) = 0)) (et_test (ev_op (e_law_pickN (m := 3) (ev_var rfl) (ev_op (ev_op ev_int (ev_var rfl) (od_mul_int (.inl ⟨by decide, by decide⟩))) ev_int od_add_int) ev_int rfl hn (by omega) (by omega)) ev_int od_eq_int)) (fun _ => ?_) (fun _ => ws_next ⟨new0, hr0, rfl⟩)
      exact ws_set (sd := .dt (rep old [])) (ev_tup (ea_cons (ev_op (ev_var rfl) ev_int (od_ix_tup rfl)) (ea_cons ev_str ea_nil)) z2) ⟨[], ⟨hr0.o1, hr0.o4, by decide, hr0.oa, abc_nil⟩, rfl⟩
    · rintro τ ⟨new, hr, rfl⟩
      have ho1 := hr.o1
      refine ws_seq (ws_set (sd := .ls []) (ev_lst ea_nil (Nat.zero_le _)) ?_)
      have htl := txs_len 4
      refine ws_seq (ws_for (ie_list (EvX.frz (e_law_texts (n := 4) (ev_is ev_int rfl) (by decide)))) (fun j τ => ∃ y4 y5, τ = [.dt (scrD ns), .dt (.int (0 + (i : Int))), .dt (rep old new), .ls ((((txs 4).take j).filter fun t => !rchB old new t).map T), y4, y5, x6, x7, x8, x9]) ⟨_, _, rfl⟩ ?_ ?_)
      · rintro j x τ hx ⟨y4, y5, rfl⟩
        obtain ⟨t, ht, rfl⟩ := map_get hx
        obtain ⟨ha, hl⟩ := txs_mem.mp (List.mem_of_getElem? ht)
        refine ⟨_, tg_name, ?_⟩
        refine ws_seq (ws_set (e_law_reaches (b := rchB old new t) (ev_var rfl) (ev_var rfl) hr ha (by omega) rchB_iff) ?_)
        refine ws_seq (ws_if (b := false) (et_test (ev_is (ev_op (e_is_reached (b := rchB old new t) (ev_var rfl) (ev_var rfl) hr ha (by omega) rchB_iff) (ev_var rfl) od_ne_bool) (neB_self rfl))) (fun z => Bool.noConfusion z) fun _ => ws_next ?_)
        have ef : ((txs 4).take (j + 1)).filter (fun t => !rchB old new t) = ((txs 4).take j).filter (fun t => !rchB old new t) ++ [t].filter (fun t => !rchB old new t) := by rw [take_step ht, List.filter_append]
        rw [ef]
        have hfl : (((txs 4).take j).filter fun t => !rchB old new t).length ≤ (txs 4).length := Nat.le_trans (List.length_filter_le _ _) (List.length_take_le' _ _)
        refine ws_if (b := !rchB old new t) (et_not (et_B (ev_var rfl))) (fun hb => ?_) (fun hb => ?_)
        · refine ws_append (i := 3) rfl (ev_var rfl) (by rw [List.length_map]; omega) ⟨.dt (T t), .dt (.bool (rchB old new t)), ?_⟩
          rw [List.filter_cons, if_pos hb, List.map_append]
          rfl
        · refine ws_next ⟨.dt (T t), .dt (.bool (rchB old new t)), ?_⟩
          rw [List.filter_cons, if_neg (by rw [hb]; exact Bool.false_ne_true), List.filter_nil, List.append_nil]
          rfl
      · rintro τ ⟨y4, y5, rfl⟩
        rw [List.length_map, List.take_length]
        have hmm : (txs 4).filter (fun t => !rchB old new t) = missU old new := rfl
        rw [hmm]
        refine ws_seq (ws_forN (xs := rng 0 3) (in_range1 (n := 3) (ea_cons ev_int ea_nil) (by decide) (by decide)) (fun _ τ => ∃ y4 y6, τ = [.dt (scrD ns), .dt (.int (0 + (i : Int))), .dt (rep old new), .ls ((missU old new).map T), y4, y5, y6, x7, x8, x9]) ⟨_, _, rfl⟩ ?_ ?_)
        · rintro j x τ hx ⟨y4, y6, rfl⟩
          obtain ⟨hj, rfl⟩ := rng_get hx
          refine ⟨_, tg_name, ?_⟩
          have hw1 := (word_len ns (30 * (0 + (i : Int)) + 21 + 8 * (0 + (j : Int))) (least := 5) (most := 7) (by omega)).2
          have hw2 := word_abc ns (30 * (0 + (i : Int)) + 21 + 8 * (0 + (j : Int))) 5 7
          refine ws_seq (ws_set (e_law_word (k := 30 * (0 + (i : Int)) + 21 + 8 * (0 + (j : Int))) (least := 5) (most := 7) (ev_var rfl) (ev_op (ev_op (ev_op ev_int (ev_var rfl) (od_mul_int (.inl ⟨by decide, by decide⟩))) ev_int od_add_int) (ev_op ev_int (ev_var rfl) (od_mul_int (.inl ⟨by decide, by decide⟩))) od_add_int) ev_int ev_int rfl rfl hn (by omega) ⟨by decide, by decide⟩) ?_)
          generalize wordOf ns (30 * (0 + (i : Int)) + 21 + 8 * (0 + (j : Int))) 5 7 = t at hw1 hw2 ⊢
          exact ws_if (b := false) (et_test (ev_is (ev_op (e_is_reached (b := rchB old new t) (ev_var rfl) (ev_var rfl) hr hw2 (by omega) rchB_iff) (e_law_reaches (b := rchB old new t) (ev_var rfl) (ev_var rfl) hr hw2 (by omega) rchB_iff) od_ne_bool) (neB_self rfl))) (fun z => Bool.noConfusion z) fun _ => ws_next ⟨_, _, rfl⟩
        · rintro τ ⟨y4, y6, rfl⟩
          obtain ⟨o, ho⟩ := IsFirst.ex fun t => ¬ Rch old new t
          refine ws_seq (ws_set (e_unreached_text (ev_var rfl) hr ho) ?_)
          refine ws_frz 3 rfl ?_
          have hmab : ∀ t ∈ missU old new, abc t := fun t ht => (miss_mem.mp ht).1.1
          have hsh : SeqAt.shaped (.list ((missU old new).map T)) = true := (sh_list (n := 1) fun d hd => by
            obtain ⟨t, ht, rfl⟩ := List.mem_map.mp hd
            exact sh_T (hmab t ht)).ok (by decide)
          have hf : ∀ x r, missU old new = x :: r → o = some x := fun x r e => miss_first e ho
          have hm0 : missU old new = [] → ∀ x, o = some x → 5 ≤ x.length := fun e x eo => by
            rw [eo] at ho
            rcases Nat.lt_or_ge x.length 5 with z | z
            · have := miss_mem.mpr ⟨⟨ho.1, by omega⟩, ho.2.1⟩
              rw [e] at this; cases this
            · exact z
          generalize missU old new = M0 at hsh hf hm0 ⊢
          refine ws_mid (fun τ => τ = [.dt (scrD ns), .dt (.int (0 + (i : Int))), .dt (rep old new), .dt (.list (M0.map T)), y4, y5, y6, .dt (optT o), x8, x9]) ?_ ?_
          · cases M0 with
            | nil => exact ws_if (b := false) (et_andF (et_test (ev_is (ev_op (ev_var rfl) (EvX.frz (ev_lst ea_nil (Nat.zero_le _))) (od_neD hsh hsh0)) (by rw [eqv_nil]; rfl)))) (fun z => Bool.noConfusion z) fun _ => ws_next rfl
            | cons x r =>
              rw [hf x r rfl]
              exact ws_if (b := false) (et_is (et_and (a := true) (b := false) (et_test (ev_is (ev_op (ev_var rfl) (EvX.frz (ev_lst ea_nil (Nat.zero_le _))) (od_neD hsh hsh0)) (by rw [eqv_nil]; rfl))) fun _ => et_test (ev_is (ev_op (sd := .dt (.bool (!decide (x = x)))) (ev_var (d := T x) rfl) (ev_op (ev_var rfl) ev_int (od_ix_list (d := T x) (atK (l := (x :: r).map T) (n := 0) rfl))) od_neT) (by rw [decide_eq_true rfl]; rfl))) rfl) (fun z => Bool.noConfusion z) fun _ => ws_next rfl
          rintro τ rfl
          refine ws_mid (fun τ => τ = [.dt (scrD ns), .dt (.int (0 + (i : Int))), .dt (rep old new), .dt (.list (M0.map T)), y4, y5, y6, .dt (optT o), x8, x9]) ?_ ?_
          · cases M0 with
            | cons x r => exact ws_if (b := false) (et_andF (et_test (ev_is (ev_op (ev_var rfl) (EvX.frz (ev_lst ea_nil (Nat.zero_le _))) (od_eqD hsh hsh0)) (by rw [eqv_nil]; rfl)))) (fun z => Bool.noConfusion z) fun _ => ws_next rfl
            | nil =>
              have t1 : EvT K (tTest (tOp (rEqU K) (tVar 3) (tLst tNil))) (av [.dt (scrD ns), .dt (.int (0 + (i : Int))), .dt (rep old new), .dt (.list (([] : List (List Nat)).map T)), y4, y5, y6, .dt (optT o), x8, x9]) true := et_test (ev_is (ev_op (ev_var rfl) (EvX.frz (ev_lst ea_nil (Nat.zero_le _))) (od_eqD hsh hsh0)) (by rw [eqv_nil]; rfl))
              cases o with
              | none => exact ws_if (b := false) (et_is (et_and (a := true) (b := false) t1 fun _ => et_test (ev_is (ev_op (ev_var rfl) ev_none od_ntN) rfl)) rfl) (fun z => Bool.noConfusion z) fun _ => ws_next rfl
              | some x =>
                have h5 := hm0 rfl x rfl
                have h8 := first_len hr ho
                have hxa : abc x := ho.1
                have hng : ¬ Rch old new x := ho.2.1
                refine ws_if (b := true) (et_is (et_and (a := true) (b := true) t1 fun _ => et_test (ev_is (ev_op (ev_var rfl) ev_none od_ntN) rfl)) rfl) (fun _ => ?_) fun z => Bool.noConfusion z
                exact ws_if (b := false) (et_is (et_or (a := false) (b := false) (et_is (et_not (et_B (e_is_text (ev_var (d := T x) rfl) (ok_T (by omega))))) (by rw [isText_T (by omega) hxa]; rfl)) fun _ => et_is (et_or (a := false) (b := false) (et_test (ev_is (ev_op (ev_cb (ea_cons (ev_var (d := T x) rfl) ea_nil) (cd_lenT (by omega))) ev_int od_lt) (by rw [decide_eq_false (by omega)]))) fun _ => et_test (ev_is (ev_op (e_is_reached (b := false) (ev_var rfl) (ev_var (d := T x) rfl) hr hxa (by omega) ⟨fun z => Bool.noConfusion z, fun z => absurd z hng⟩) ev_bool od_ntB) rfl)) rfl) rfl) (fun z => Bool.noConfusion z) fun _ => ws_next rfl
          rintro τ rfl
          have hwk : ∀ k : Nat, abc (wordOf ns (90 + 9 * (0 + (k : Int))) 6 8) ∧ (wordOf ns (90 + 9 * (0 + (k : Int))) 6 8).length ≤ 8 := fun k => ⟨word_abc _ _ _ _, (word_len ns _ (by omega)).2⟩
          refine ws_seq (ws_set (sd := .dt (.list ((List.range 3).map fun (k : Nat) => T (wordOf ns (90 + 9 * (0 + (k : Int))) 6 8)))) (EvX.frz (ev_lcM (l := List.range 3) (d := fun (k : Nat) => PyData.int (0 + (k : Int))) (fun k => T (wordOf ns (90 + 9 * (0 + (k : Int))) 6 8)) (in_range1 (n := 3) (ea_cons ev_int ea_nil) (by decide) (by decide)).e (by show 3 ≤ sizeLine; decide) fun k hk => ⟨_, te_name (by decide), e_law_word (least := 6) (most := 8) (ev_var rfl) (ev_op ev_int (ev_op ev_int (ev_var rfl) (od_mul_int (.inl ⟨by decide, by decide⟩))) od_add_int) ev_int ev_int rfl rfl hn (by have := List.mem_range.mp hk; omega) ⟨by decide, by decide⟩⟩)) ?_)
          cases o with
          | some x => exact ws_if (b := false) (et_andF (et_test (ev_is (ev_op (ev_var rfl) ev_none od_isN) rfl))) (fun z => Bool.noConfusion z) fun _ => ws_next ⟨_, _, _, _, _, _, _, _, _, rfl⟩
          | none =>
            have hall : ∀ t, abc t → Rch old new t := fun t ht => Classical.byContradiction fun z => ho t ht z
            exact ws_if (b := false) (et_is (et_and (a := true) (b := false) (et_test (ev_is (ev_op (ev_var rfl) ev_none od_isN) rfl)) fun _ => et_is (et_not (et_B (ev_is (ev_cb (ea_cons (EvX.frz (ev_isL (ev_lcM (l := List.range 3) (d := fun (k : Nat) => T (wordOf ns (90 + 9 * (0 + (k : Int))) 6 8)) (fun _ => PyData.bool true) (ie_list (ev_var rfl)) (by show 3 ≤ sizeLine; decide) fun k hk => ⟨_, te_name (by decide), e_is_reached (b := true) (ev_var rfl) (ev_var rfl) hr (hwk k).1 (by have := (hwk k).2; omega) ⟨fun _ => hall _ (hwk k).1, fun _ => rfl⟩⟩) (ds' := [true, true, true].map PyData.bool) rfl)) ea_nil) cd_all) (d' := .bool true) rfl))) rfl) rfl) (fun z => Bool.noConfusion z) fun _ => ws_next ⟨_, _, _, _, _, _, _, _, _, rfl⟩
  · rintro τ ⟨x1, x2, x3, x4, x5, x6, x7, x8, x9, rfl⟩
    have r1 : Rp [97] [97, 97] := ⟨by decide, by decide, by decide, by unfold abc; decide, by unfold abc; decide⟩
    have r2 : Rp [97] [97] := ⟨by decide, by decide, by decide, by unfold abc; decide, by unfold abc; decide⟩
    refine ws_ret (ev_andV (a := true) (b := true) (ev_is (ev_op (e_unreached_text (old := [97]) (new := [97, 97]) (o := some [97]) (ev_tup (ea_cons ev_str (ea_cons ev_str ea_nil)) z2) r1 first_a) (ev_str (z := tx [97])) (od_eqT (a := [97]) (b := [97]))) rfl) fun _ => ev_is (ev_op (e_unreached_text (old := [97]) (new := [97]) (o := none) (ev_tup (ea_cons ev_str (ea_cons ev_str ea_nil)) z2) r2 first_n) ev_none od_isN) rfl) rfl
end
end Sw
/-! part D12 -/
set_option Elab.async false
set_option linter.all false
set_option maxRecDepth 100000
set_option maxHeartbeats 4000000
namespace Sw
open PySem PySem.Spec L2
def top (i : Nat) : Stmt := PySem.Challenge.pw_swapwords_k12_whole_reached.main.body.getD i (.Pass ⟨0, 0, 0, 0⟩)
structure Txt (K : PySem.W.Frag) (mg : Str → Option Value) : Prop where
  x_InvalidReplacement : ExcOk K mg "InvalidReplacement"
  x_InvalidText : ExcOk K mg "InvalidText"
  z_all : mg "all" = none
  z_any : mg "any" = none
  z_enumerate : mg "enumerate" = none
  z_isinstance : mg "isinstance" = none
  z_len : mg "len" = none
  z_list : mg "list" = none
  z_max : mg "max" = none
  z_min : mg "min" = none
  z_range : mg "range" = none
  z_sorted : mg "sorted" = none
  z_str : mg "str" = none
  z_tuple : mg "tuple" = none
  c_MAX_TEXT : ∃ t, mg "MAX_TEXT" = some (.int 40 t)
  c_MAX_WORD : ∃ t, mg "MAX_WORD" = some (.int 4 t)
  c_SIGNS : ∃ t, mg "SIGNS" = some (.str (tx [97, 98, 99]) t)
section
variable {P : Program} {w : World} {K : PySem.W.Frag} {mg : Str → Option Value} {base : Heap} {f : Addr} {fd : FuncData}
abbrev s_is_string : Stmt := top 8
abbrev N_is_string : List Str := ["value", "least", "most", "sign"]
theorem sc_is_string : FnScope N_is_string ["value", "least", "most"] (defScope s_is_string) := ⟨rfl, rfl, rfl, by decide +kernel, rfl, by decide +kernel, by decide +kernel⟩
theorem fo_is_string (Tx : Txt K mg) (Fn : FnP K "is_string" s_is_string f fd) : FnOk P w K mg base (L2.CX P w) 1 f fd ["value", "least", "most"] (spD K F_is_string) :=
  fn_ok Fn sc_is_string len_is_string fun cdv A outer s H E hr => ⟨t_is_string K (fun cls d _ H' => E cls d H'), by
    have tk := takes_of (X := cxOf (L2.CX P w) P w K mg base N_is_string "is_string" (defScope s_is_string) f cdv A outer s H E) (E := E) rfl rfl rfl rfl
    have po := passes_of (X := cxOf (L2.CX P w) P w K mg base N_is_string "is_string" (defScope s_is_string) f cdv A outer s H E) rfl
    exact (
    (pss_cons (ps_if (PW.pt (pw_or (pt_not (pt_val (pe_callB call_isi (by rfl) Tx.z_isinstance (by decide +kernel) (pa_cons (pv 0) (pa_cons (pe_bltn (v := .ty "str") (by rfl) Tx.z_str (by decide +kernel) rfl) pa_nil))))) (pw_or1 (pt_not (pt_chain op_leU op_leU (pv 1) (pe_callB call_lenU (by rfl) Tx.z_len (by decide +kernel) (pa_cons (pv 0) pa_nil)) (pv 2)))))) (pss_one (ps_ret pe_bl)) pss_nil)
    (pss_one (ps_ret (pe_callB (cr_all rfl) (by rfl) Tx.z_all (by decide +kernel) (pa_cons (pe_lc (own := [("sign", 3)]) rfl sc_is_string.nd (pi_str (pv 0)) (blkOk_by (own := [("sign", 3)]) (N := N_is_string) (sc := defScope s_is_string) (by decide +kernel)) (fun _ _ _ _ _ => (pg_name (i := 3) sc_is_string.nd rfl (Or.inl rfl))) (fun _ _ _ _ _ => pts_nil) (fun _ _ _ _ _ => (pe_cmpR (op_inU hr) (pv 3) (pe_gstr rfl Tx.c_SIGNS) (by rfl)))) pa_nil)))))), fun ds sd h => ws_is_string h⟩
theorem ok_is_string (Tx : Txt K mg) (Fn : FnP K "is_string" s_is_string f fd) (hm : mg "is_string" = some (.ref f)) : Cal P w K mg base 1 "is_string" ["value", "least", "most"] F_is_string :=
  ⟨f, fd, hm, Fn.kp, Fn.bindsN (fun _ _ _ _ _ _ us hl => match us, hl with | [_, _, _], _ => rfl), fo_is_string Tx Fn⟩
abbrev s_is_text : Stmt := top 9
abbrev N_is_text : List Str := ["candidate"]
theorem sc_is_text : FnScope N_is_text ["candidate"] (defScope s_is_text) := ⟨rfl, rfl, rfl, by decide +kernel, rfl, by decide +kernel, by decide +kernel⟩
theorem fo_is_text (Tx : Txt K mg) (C_is_string : Cal P w K mg base 1 "is_string" ["value", "least", "most"] F_is_string) (Fn : FnP K "is_text" s_is_text f fd) : FnOk P w K mg base (L2.CX P w) 2 f fd ["candidate"] (spD K F_is_text) :=
  fn_ok Fn sc_is_text len_is_text fun cdv A outer s H E hr => ⟨t_is_text K (fun cls d _ H' => E cls d H'), by
    have tk := takes_of (X := cxOf (L2.CX P w) P w K mg base N_is_text "is_text" (defScope s_is_text) f cdv A outer s H E) (E := E) rfl rfl rfl rfl
    have po := passes_of (X := cxOf (L2.CX P w) P w K mg base N_is_text "is_text" (defScope s_is_text) f cdv A outer s H E) rfl
    exact (
    (pss_one (ps_ret (pe_callC C_is_string tk (hr.mono (by decide)) rfl (pa_cons (pv 0) (pa_cons pe_int (pa_cons (pe_gint rfl Tx.c_MAX_TEXT) pa_nil))))))), fun ds sd h => ws_is_text h⟩
theorem ok_is_text (Tx : Txt K mg) (C_is_string : Cal P w K mg base 1 "is_string" ["value", "least", "most"] F_is_string) (Fn : FnP K "is_text" s_is_text f fd) (hm : mg "is_text" = some (.ref f)) : Cal P w K mg base 2 "is_text" ["candidate"] F_is_text :=
  ⟨f, fd, hm, Fn.kp, Fn.bindsN (fun _ _ _ _ _ _ us hl => match us, hl with | [_], _ => rfl), fo_is_text Tx C_is_string Fn⟩
abbrev s_is_replacement : Stmt := top 10
abbrev N_is_replacement : List Str := ["candidate"]
theorem sc_is_replacement : FnScope N_is_replacement ["candidate"] (defScope s_is_replacement) := ⟨rfl, rfl, rfl, by decide +kernel, rfl, by decide +kernel, by decide +kernel⟩
theorem fo_is_replacement (Tx : Txt K mg) (C_is_string : Cal P w K mg base 1 "is_string" ["value", "least", "most"] F_is_string) (Fn : FnP K "is_replacement" s_is_replacement f fd) : FnOk P w K mg base (L2.CX P w) 2 f fd ["candidate"] (spD K F_is_replacement) :=
  fn_ok Fn sc_is_replacement len_is_replacement fun cdv A outer s H E hr => ⟨t_is_replacement K (fun cls d _ H' => E cls d H'), by
    have tk := takes_of (X := cxOf (L2.CX P w) P w K mg base N_is_replacement "is_replacement" (defScope s_is_replacement) f cdv A outer s H E) (E := E) rfl rfl rfl rfl
    have po := passes_of (X := cxOf (L2.CX P w) P w K mg base N_is_replacement "is_replacement" (defScope s_is_replacement) f cdv A outer s H E) rfl
    exact (
    (pss_cons (ps_if (PW.pt (pw_or (pt_not (pt_val (pe_callB call_isi (by rfl) Tx.z_isinstance (by decide +kernel) (pa_cons (pv 0) (pa_cons (pe_bltn (v := .ty "tuple") (by rfl) Tx.z_tuple (by decide +kernel) rfl) pa_nil))))) (pw_or1 (pt_cmpR (op_neU hr) (pe_callB call_lenU (by rfl) Tx.z_len (by decide +kernel) (pa_cons (pv 0) pa_nil)) pe_int (nomark _))))) (pss_one (ps_ret pe_bl)) pss_nil)
    (pss_one (ps_ret (pe_and (pe_callC C_is_string tk (hr.mono (by decide)) rfl (pa_cons (pe_ix ix_seq (pv 0) pe_int (fun _ _ => rfl)) (pa_cons pe_int (pa_cons (pe_gint rfl Tx.c_MAX_WORD) pa_nil)))) (pe_one (pe_callC C_is_string tk (hr.mono (by decide)) rfl (pa_cons (pe_ix ix_seq (pv 0) pe_int (fun _ _ => rfl)) (pa_cons pe_int (pa_cons (pe_gint rfl Tx.c_MAX_WORD) pa_nil)))))))))), fun ds sd h => ws_is_replacement h⟩
theorem ok_is_replacement (Tx : Txt K mg) (C_is_string : Cal P w K mg base 1 "is_string" ["value", "least", "most"] F_is_string) (Fn : FnP K "is_replacement" s_is_replacement f fd) (hm : mg "is_replacement" = some (.ref f)) : Cal P w K mg base 2 "is_replacement" ["candidate"] F_is_replacement :=
  ⟨f, fd, hm, Fn.kp, Fn.bindsN (fun _ _ _ _ _ _ us hl => match us, hl with | [_], _ => rfl), fo_is_replacement Tx C_is_string Fn⟩
abbrev s_check_replacement : Stmt := top 11
abbrev N_check_replacement : List Str := ["value"]
theorem sc_check_replacement : FnScope N_check_replacement ["value"] (defScope s_check_replacement) := ⟨rfl, rfl, rfl, by decide +kernel, rfl, by decide +kernel, by decide +kernel⟩
theorem fo_check_replacement (Tx : Txt K mg) (C_is_replacement : Cal P w K mg base 2 "is_replacement" ["candidate"] F_is_replacement) (Fn : FnP K "check_replacement" s_check_replacement f fd) : FnOk P w K mg base (L2.CX P w) 3 f fd ["value"] (spD K F_check_replacement) :=
  fn_ok Fn sc_check_replacement len_check_replacement fun cdv A outer s H E hr => ⟨t_check_replacement K (fun cls d _ H' => E cls d H'), by
    have tk := takes_of (X := cxOf (L2.CX P w) P w K mg base N_check_replacement "check_replacement" (defScope s_check_replacement) f cdv A outer s H E) (E := E) rfl rfl rfl rfl
    have po := passes_of (X := cxOf (L2.CX P w) P w K mg base N_check_replacement "check_replacement" (defScope s_check_replacement) f cdv A outer s H E) rfl
    exact (
    (pss_one (ps_if (pt_not (pt_val (pe_callC C_is_replacement tk (hr.mono (by decide)) rfl (pa_cons (pv 0) pa_nil)))) (pss_one (ps_raiseX Tx.x_InvalidReplacement rfl tk rfl)) pss_nil))), fun ds sd h => ws_check_replacement h⟩
theorem ok_check_replacement (Tx : Txt K mg) (C_is_replacement : Cal P w K mg base 2 "is_replacement" ["candidate"] F_is_replacement) (Fn : FnP K "check_replacement" s_check_replacement f fd) (hm : mg "check_replacement" = some (.ref f)) : Cal P w K mg base 3 "check_replacement" ["value"] F_check_replacement :=
  ⟨f, fd, hm, Fn.kp, Fn.bindsN (fun _ _ _ _ _ _ us hl => match us, hl with | [_], _ => rfl), fo_check_replacement Tx C_is_replacement Fn⟩
abbrev s_check_text : Stmt := top 12
abbrev N_check_text : List Str := ["value"]
theorem sc_check_text : FnScope N_check_text ["value"] (defScope s_check_text) := ⟨rfl, rfl, rfl, by decide +kernel, rfl, by decide +kernel, by decide +kernel⟩
theorem fo_check_text (Tx : Txt K mg) (C_is_text : Cal P w K mg base 2 "is_text" ["candidate"] F_is_text) (Fn : FnP K "check_text" s_check_text f fd) : FnOk P w K mg base (L2.CX P w) 3 f fd ["value"] (spD K F_check_text) :=
  fn_ok Fn sc_check_text len_check_text fun cdv A outer s H E hr => ⟨t_check_text K (fun cls d _ H' => E cls d H'), by
    have tk := takes_of (X := cxOf (L2.CX P w) P w K mg base N_check_text "check_text" (defScope s_check_text) f cdv A outer s H E) (E := E) rfl rfl rfl rfl
    have po := passes_of (X := cxOf (L2.CX P w) P w K mg base N_check_text "check_text" (defScope s_check_text) f cdv A outer s H E) rfl
    exact (
    (pss_one (ps_if (pt_not (pt_val (pe_callC C_is_text tk (hr.mono (by decide)) rfl (pa_cons (pv 0) pa_nil)))) (pss_one (ps_raiseX Tx.x_InvalidText rfl tk rfl)) pss_nil))), fun ds sd h => ws_check_text h⟩
theorem ok_check_text (Tx : Txt K mg) (C_is_text : Cal P w K mg base 2 "is_text" ["candidate"] F_is_text) (Fn : FnP K "check_text" s_check_text f fd) (hm : mg "check_text" = some (.ref f)) : Cal P w K mg base 3 "check_text" ["value"] F_check_text :=
  ⟨f, fd, hm, Fn.kp, Fn.bindsN (fun _ _ _ _ _ _ us hl => match us, hl with | [_], _ => rfl), fo_check_text Tx C_is_text Fn⟩
abbrev s_longest_end : Stmt := top 13
abbrev N_longest_end : List Str := ["text", "word", "size"]
theorem sc_longest_end : FnScope N_longest_end ["text", "word"] (defScope s_longest_end) := ⟨rfl, rfl, rfl, by decide +kernel, rfl, by decide +kernel, by decide +kernel⟩
theorem fo_longest_end (Tx : Txt K mg) (Fn : FnP K "longest_end" s_longest_end f fd) : FnOk P w K mg base (L2.CX P w) 1 f fd ["text", "word"] (spD K F_longest_end) :=
  fn_ok Fn sc_longest_end len_longest_end fun cdv A outer s H E hr => ⟨t_longest_end K (fun cls d _ H' => E cls d H'), by
    have tk := takes_of (X := cxOf (L2.CX P w) P w K mg base N_longest_end "longest_end" (defScope s_longest_end) f cdv A outer s H E) (E := E) rfl rfl rfl rfl
    have po := passes_of (X := cxOf (L2.CX P w) P w K mg base N_longest_end "longest_end" (defScope s_longest_end) f cdv A outer s H E) rfl
    exact (
    (pss_cons (ps_set (i := 2) sc_longest_end.nd rfl (Or.inl rfl) (pe_callB (call_min2U hr rfl) (by rfl) Tx.z_min (by decide +kernel) (pa_cons (pe_callB call_lenU (by rfl) Tx.z_len (by decide +kernel) (pa_cons (pv 0) pa_nil)) (pa_cons (pe_op op_subU (pe_callB call_lenU (by rfl) Tx.z_len (by decide +kernel) (pa_cons (pv 1) pa_nil)) pe_int) pa_nil))))
    (pss_cons (ps_while po (pt_cmpR (op_neU hr) (pe_slice sl_U (pv 0) (po_some (pe_op op_subU (pe_callB call_lenU (by rfl) Tx.z_len (by decide +kernel) (pa_cons (pv 0) pa_nil)) (pv 2))) po_none) (pe_slice sl_U (pv 1) po_none (po_some (pv 2))) (nomark _)) (pss_one (ps_set (i := 2) sc_longest_end.nd rfl (Or.inl rfl) (pe_op op_subU (pv 2) pe_int))))
    (pss_one (ps_ret (pe_slice sl_U (pv 0) (po_some (pe_op op_subU (pe_callB call_lenU (by rfl) Tx.z_len (by decide +kernel) (pa_cons (pv 0) pa_nil)) (pv 2))) po_none)))))), fun ds sd h => ws_longest_end h⟩
theorem ok_longest_end (Tx : Txt K mg) (Fn : FnP K "longest_end" s_longest_end f fd) (hm : mg "longest_end" = some (.ref f)) : Cal P w K mg base 1 "longest_end" ["text", "word"] F_longest_end :=
  ⟨f, fd, hm, Fn.kp, Fn.bindsN (fun _ _ _ _ _ _ us hl => match us, hl with | [_, _], _ => rfl), fo_longest_end Tx Fn⟩
abbrev s_read_sign : Stmt := top 14
abbrev N_read_sign : List Str := ["replacement", "pending", "sign", "old", "new", "text", "rest"]
theorem sc_read_sign : FnScope N_read_sign ["replacement", "pending", "sign"] (defScope s_read_sign) := ⟨rfl, rfl, rfl, by decide +kernel, rfl, by decide +kernel, by decide +kernel⟩
theorem fo_read_sign (Tx : Txt K mg) (C_longest_end : Cal P w K mg base 1 "longest_end" ["text", "word"] F_longest_end) (Fn : FnP K "read_sign" s_read_sign f fd) : FnOk P w K mg base (L2.CX P w) 2 f fd ["replacement", "pending", "sign"] (spD K F_read_sign) :=
  fn_ok Fn sc_read_sign len_read_sign fun cdv A outer s H E hr => ⟨t_read_sign K (fun cls d _ H' => E cls d H'), by
    have tk := takes_of (X := cxOf (L2.CX P w) P w K mg base N_read_sign "read_sign" (defScope s_read_sign) f cdv A outer s H E) (E := E) rfl rfl rfl rfl
    have po := passes_of (X := cxOf (L2.CX P w) P w K mg base N_read_sign "read_sign" (defScope s_read_sign) f cdv A outer s H E) rfl
    exact (
    (pss_cons (ps_asg (pv 0) (pg_tup rfl (pgs_cons (pg_name (i := 3) sc_read_sign.nd rfl (Or.inl rfl)) (pgs_cons (pg_name (i := 4) sc_read_sign.nd rfl (Or.inl rfl)) pgs_nil))))
    (pss_cons (ps_set (i := 5) sc_read_sign.nd rfl (Or.inl rfl) (pe_op op_addU (pv 1) (pv 2)))
    (pss_cons (ps_if (pt_cmpR (op_eqU hr) (pv 5) (pv 3) (nomark _)) (pss_one (ps_ret (pe_tup (pa_cons (pe_strE (y := []) (by decide +kernel)) (pa_cons (pv 4) pa_nil))))) pss_nil)
    (pss_cons (ps_set (i := 6) sc_read_sign.nd rfl (Or.inl rfl) (pe_callC C_longest_end tk (hr.mono (by decide)) rfl (pa_cons (pv 5) (pa_cons (pv 3) pa_nil))))
    (pss_one (ps_ret (pe_tup (pa_cons (pv 6) (pa_cons (pe_slice sl_U (pv 5) po_none (po_some (pe_op op_subU (pe_callB call_lenU (by rfl) Tx.z_len (by decide +kernel) (pa_cons (pv 5) pa_nil)) (pe_callB call_lenU (by rfl) Tx.z_len (by decide +kernel) (pa_cons (pv 6) pa_nil))))) pa_nil)))))))))), fun ds sd h => ws_read_sign h⟩
theorem ok_read_sign (Tx : Txt K mg) (C_longest_end : Cal P w K mg base 1 "longest_end" ["text", "word"] F_longest_end) (Fn : FnP K "read_sign" s_read_sign f fd) (hm : mg "read_sign" = some (.ref f)) : Cal P w K mg base 2 "read_sign" ["replacement", "pending", "sign"] F_read_sign :=
  ⟨f, fd, hm, Fn.kp, Fn.bindsN (fun _ _ _ _ _ _ us hl => match us, hl with | [_, _, _], _ => rfl), fo_read_sign Tx C_longest_end Fn⟩
abbrev s_spread : Stmt := top 16
abbrev N_spread : List Str := ["replacement", "ends", "end"]
theorem sc_spread : FnScope N_spread ["replacement", "ends"] (defScope s_spread) := ⟨rfl, rfl, rfl, by decide +kernel, rfl, by decide +kernel, by decide +kernel⟩
theorem fo_spread (Tx : Txt K mg) (C_may_put : Cal P w K mg base 3 "may_put" ["replacement", "end"] F_may_put) (Fn : FnP K "spread" s_spread f fd) : FnOk P w K mg base (L2.CX P w) 4 f fd ["replacement", "ends"] (spD K F_spread) :=
  fn_ok Fn sc_spread len_spread fun cdv A outer s H E hr => ⟨t_spread K (fun cls d _ H' => E cls d H'), by
    have tk := takes_of (X := cxOf (L2.CX P w) P w K mg base N_spread "spread" (defScope s_spread) f cdv A outer s H E) (E := E) rfl rfl rfl rfl
    have po := passes_of (X := cxOf (L2.CX P w) P w K mg base N_spread "spread" (defScope s_spread) f cdv A outer s H E) rfl
    exact (
    (pss_cons (ps_if (PW.pt (pw_and (pt_cmpR (op_eqU hr) (pe_ix ix_seq (pv 0) pe_int (fun _ _ => rfl)) (pe_strE (y := []) (by decide +kernel)) (nomark _)) (pw_and (pt_cmpR (op_niU hr) (pe_strE (y := []) (by decide +kernel)) (pv 1) (by rfl)) (pw_and1 (pt_val (pe_callB (cr_any rfl) (by rfl) Tx.z_any (by decide +kernel) (pa_cons (pe_lc (own := [("end", 2)]) rfl sc_spread.nd (pi_list (pv 1)) (blkOk_by (own := [("end", 2)]) (N := N_spread) (sc := defScope s_spread) (by decide +kernel)) (fun _ _ _ _ _ => (pg_name (i := 2) sc_spread.nd rfl (Or.inl rfl))) (fun _ _ _ _ _ => pts_nil) (fun _ _ _ _ _ => (pe_callC C_may_put takes0 (hr.mono (by decide)) rfl (pa_cons (pv 0) (pa_cons (pv 2) pa_nil))))) pa_nil))))))) (pss_one (ps_ret (pe_op op_addU (pe_callTy cr_listOf (by rfl) Tx.z_list (by decide +kernel) (pa_cons (pv 1) pa_nil)) (pe_lst (pa_cons (pe_strE (y := []) (by decide +kernel)) pa_nil))))) pss_nil)
    (pss_one (ps_ret (pv 1))))), fun ds sd h => ws_spread h⟩
theorem ok_spread (Tx : Txt K mg) (C_may_put : Cal P w K mg base 3 "may_put" ["replacement", "end"] F_may_put) (Fn : FnP K "spread" s_spread f fd) (hm : mg "spread" = some (.ref f)) : Cal P w K mg base 4 "spread" ["replacement", "ends"] F_spread :=
  ⟨f, fd, hm, Fn.kp, Fn.bindsN (fun _ _ _ _ _ _ us hl => match us, hl with | [_, _], _ => rfl), fo_spread Tx C_may_put Fn⟩
abbrev s_may_put : Stmt := top 17
abbrev N_may_put : List Str := ["replacement", "end", "old", "pending", "place", "sign"]
theorem sc_may_put : FnScope N_may_put ["replacement", "end"] (defScope s_may_put) := ⟨rfl, rfl, rfl, by decide +kernel, rfl, by decide +kernel, by decide +kernel⟩
theorem fo_may_put (Tx : Txt K mg) (C_read_sign : Cal P w K mg base 2 "read_sign" ["replacement", "pending", "sign"] F_read_sign) (Fn : FnP K "may_put" s_may_put f fd) : FnOk P w K mg base (L2.CX P w) 3 f fd ["replacement", "end"] (spD K F_may_put) :=
  fn_ok Fn sc_may_put len_may_put fun cdv A outer s H E hr => ⟨t_may_put K (fun cls d _ H' => E cls d H'), by
    have tk := takes_of (X := cxOf (L2.CX P w) P w K mg base N_may_put "may_put" (defScope s_may_put) f cdv A outer s H E) (E := E) rfl rfl rfl rfl
    have po := passes_of (X := cxOf (L2.CX P w) P w K mg base N_may_put "may_put" (defScope s_may_put) f cdv A outer s H E) rfl
    exact (
    (pss_cons (ps_par (i := 2) (j := 3) rfl sc_may_put.nd rfl rfl (by decide) rfl rfl (pa_cons (pe_ix ix_seq (pv 0) pe_int (fun _ _ => rfl)) (pa_cons (pv 1) pa_nil)) (by rfl))
    (pss_cons (ps_for po rfl (pi_enumS (by rfl) Tx.z_enumerate (pa_cons (pv 2) pa_nil)) (pg_tup rfl (pgs_cons (pg_name (i := 4) sc_may_put.nd rfl (Or.inl rfl)) (pgs_cons (pg_name (i := 5) sc_may_put.nd rfl (Or.inl rfl)) pgs_nil))) (pss_cons (ps_if (pt_cmpR (op_eqU hr) (pe_op op_addU (pv 3) (pv 5)) (pv 2) (nomark _)) (pss_one (ps_ret (pe_cmpR (op_eqU hr) (pv 4) (pe_op op_subU (pe_callB call_lenU (by rfl) Tx.z_len (by decide +kernel) (pa_cons (pv 2) pa_nil)) pe_int) (nomark _)))) pss_nil)
    (pss_one (ps_set (i := 3) sc_may_put.nd rfl (Or.inl rfl) (pe_ix ix_seq (pe_callC C_read_sign tk (hr.mono (by decide)) rfl (pa_cons (pv 0) (pa_cons (pv 3) (pa_cons (pv 5) pa_nil)))) pe_int (fun _ _ => rfl))))))
    (pss_one (ps_ret pe_bl))))), fun ds sd h => ws_may_put h⟩
theorem ok_may_put (Tx : Txt K mg) (C_read_sign : Cal P w K mg base 2 "read_sign" ["replacement", "pending", "sign"] F_read_sign) (Fn : FnP K "may_put" s_may_put f fd) (hm : mg "may_put" = some (.ref f)) : Cal P w K mg base 3 "may_put" ["replacement", "end"] F_may_put :=
  ⟨f, fd, hm, Fn.kp, Fn.bindsN (fun _ _ _ _ _ _ us hl => match us, hl with | [_, _], _ => rfl), fo_may_put Tx C_read_sign Fn⟩
abbrev s_literal : Stmt := top 18
abbrev N_literal : List Str := ["replacement", "end", "sign"]
theorem sc_literal : FnScope N_literal ["replacement", "end", "sign"] (defScope s_literal) := ⟨rfl, rfl, rfl, by decide +kernel, rfl, by decide +kernel, by decide +kernel⟩
theorem fo_literal (Tx : Txt K mg) (C_read_sign : Cal P w K mg base 2 "read_sign" ["replacement", "pending", "sign"] F_read_sign) (Fn : FnP K "literal" s_literal f fd) : FnOk P w K mg base (L2.CX P w) 3 f fd ["replacement", "end", "sign"] (spD K F_literal) :=
  fn_ok Fn sc_literal len_literal fun cdv A outer s H E hr => ⟨t_literal K (fun cls d _ H' => E cls d H'), by
    have tk := takes_of (X := cxOf (L2.CX P w) P w K mg base N_literal "literal" (defScope s_literal) f cdv A outer s H E) (E := E) rfl rfl rfl rfl
    have po := passes_of (X := cxOf (L2.CX P w) P w K mg base N_literal "literal" (defScope s_literal) f cdv A outer s H E) rfl
    exact (
    (pss_one (ps_ret (pe_ifExp (pt_cmpR (op_eqU hr) (pe_op op_addU (pv 1) (pv 2)) (pe_ix ix_seq (pv 0) pe_int (fun _ _ => rfl)) (nomark _)) pe_non (pe_ix ix_seq (pe_callC C_read_sign tk (hr.mono (by decide)) rfl (pa_cons (pv 0) (pa_cons (pv 1) (pa_cons (pv 2) pa_nil)))) pe_int (fun _ _ => rfl)))))), fun ds sd h => ws_literal h⟩
theorem ok_literal (Tx : Txt K mg) (C_read_sign : Cal P w K mg base 2 "read_sign" ["replacement", "pending", "sign"] F_read_sign) (Fn : FnP K "literal" s_literal f fd) (hm : mg "literal" = some (.ref f)) : Cal P w K mg base 3 "literal" ["replacement", "end", "sign"] F_literal :=
  ⟨f, fd, hm, Fn.kp, Fn.bindsN (fun _ _ _ _ _ _ us hl => match us, hl with | [_, _, _], _ => rfl), fo_literal Tx C_read_sign Fn⟩
abbrev s_ways_on : Stmt := top 19
abbrev N_ways_on : List Str := ["replacement", "state", "sign", "end", "size", "new", "rest", "found"]
theorem sc_ways_on : FnScope N_ways_on ["replacement", "state", "sign"] (defScope s_ways_on) := ⟨rfl, rfl, rfl, by decide +kernel, rfl, by decide +kernel, by decide +kernel⟩
theorem fo_ways_on (Tx : Txt K mg) (C_may_put : Cal P w K mg base 3 "may_put" ["replacement", "end"] F_may_put) (C_after_put : Cal P w K mg base 1 "after_put" ["new", "end", "size"] F_after_put) (C_literal : Cal P w K mg base 3 "literal" ["replacement", "end", "sign"] F_literal) (Fn : FnP K "ways_on" s_ways_on f fd) : FnOk P w K mg base (L2.CX P w) 4 f fd ["replacement", "state", "sign"] (spD K F_ways_on) :=
  fn_ok Fn sc_ways_on len_ways_on fun cdv A outer s H E hr => ⟨t_ways_on K (fun cls d _ H' => E cls d H'), by
    have tk := takes_of (X := cxOf (L2.CX P w) P w K mg base N_ways_on "ways_on" (defScope s_ways_on) f cdv A outer s H E) (E := E) rfl rfl rfl rfl
    have po := passes_of (X := cxOf (L2.CX P w) P w K mg base N_ways_on "ways_on" (defScope s_ways_on) f cdv A outer s H E) rfl
    exact (
    (pss_cons (ps_asg (pv 1) (pg_tup rfl (pgs_cons (pg_name (i := 3) sc_ways_on.nd rfl (Or.inl rfl)) (pgs_cons (pg_name (i := 4) sc_ways_on.nd rfl (Or.inl rfl)) pgs_nil))))
    (pss_cons (ps_set (i := 5) sc_ways_on.nd rfl (Or.inl rfl) (pe_ix ix_seq (pv 0) pe_int (fun _ _ => rfl)))
    (pss_cons (ps_if (pt_cmpR op_gtU (pv 4) pe_int (nomark _)) (pss_one (ps_ret (pe_ifExp (pt_cmpR (op_eqU hr) (pe_ix ix_seq (pv 5) (pv 4) (fun _ _ => rfl)) (pv 2) (nomark _)) (pe_lst (pa_cons (pe_tup (pa_cons (pe_strE (y := []) (by decide +kernel)) (pa_cons (pe_callC C_after_put tk (hr.mono (by decide)) rfl (pa_cons (pv 5) (pa_cons (pv 3) (pa_cons (pe_op op_addU (pv 4) pe_int) pa_nil)))) pa_nil))) pa_nil)) (pe_lst pa_nil)))) pss_nil)
    (pss_cons (ps_par (i := 6) (j := 7) rfl sc_ways_on.nd rfl rfl (by decide) rfl rfl (pa_cons (pe_callC C_literal tk (hr.mono (by decide)) rfl (pa_cons (pv 0) (pa_cons (pv 3) (pa_cons (pv 2) pa_nil)))) (pa_cons (pe_lst pa_nil) pa_nil)) (by rfl))
    (pss_cons (ps_if (pt_cmpR op_ntU (pv 6) pe_non (nomark _)) (pss_one (ps_expr (pe_bm PySem.F.plainAttrs_list PySem.F.slot_list_append PySem.F.type_list_append mt_append (pv 7) (pa_cons (pe_tup (pa_cons (pv 2) (pa_cons (pe_tup (pa_cons (pv 6) (pa_cons pe_int pa_nil))) pa_nil))) pa_nil)))) pss_nil)
    (pss_cons (ps_if (PW.pt (pw_and (pt_cmpR (op_eqU hr) (pe_slice sl_U (pv 5) po_none (po_some pe_int)) (pv 2) (nomark _)) (pw_and1 (pt_val (pe_callC C_may_put tk (hr.mono (by decide)) rfl (pa_cons (pv 0) (pa_cons (pv 3) pa_nil))))))) (pss_one (ps_expr (pe_bm PySem.F.plainAttrs_list PySem.F.slot_list_append PySem.F.type_list_append mt_append (pv 7) (pa_cons (pe_tup (pa_cons (pe_ix ix_seq (pv 0) pe_int (fun _ _ => rfl)) (pa_cons (pe_callC C_after_put tk (hr.mono (by decide)) rfl (pa_cons (pv 5) (pa_cons (pe_strE (y := []) (by decide +kernel)) (pa_cons pe_int pa_nil)))) pa_nil))) pa_nil)))) pss_nil)
    (pss_one (ps_ret (pv 7)))))))))), fun ds sd h => ws_ways_on h⟩
theorem ok_ways_on (Tx : Txt K mg) (C_may_put : Cal P w K mg base 3 "may_put" ["replacement", "end"] F_may_put) (C_after_put : Cal P w K mg base 1 "after_put" ["new", "end", "size"] F_after_put) (C_literal : Cal P w K mg base 3 "literal" ["replacement", "end", "sign"] F_literal) (Fn : FnP K "ways_on" s_ways_on f fd) (hm : mg "ways_on" = some (.ref f)) : Cal P w K mg base 4 "ways_on" ["replacement", "state", "sign"] F_ways_on :=
  ⟨f, fd, hm, Fn.kp, Fn.bindsN (fun _ _ _ _ _ _ us hl => match us, hl with | [_, _, _], _ => rfl), fo_ways_on Tx C_may_put C_after_put C_literal Fn⟩
abbrev s_after_put : Stmt := top 20
abbrev N_after_put : List Str := ["new", "end", "size"]
theorem sc_after_put : FnScope N_after_put ["new", "end", "size"] (defScope s_after_put) := ⟨rfl, rfl, rfl, by decide +kernel, rfl, by decide +kernel, by decide +kernel⟩
theorem fo_after_put (Tx : Txt K mg) (Fn : FnP K "after_put" s_after_put f fd) : FnOk P w K mg base (L2.CX P w) 1 f fd ["new", "end", "size"] (spD K F_after_put) :=
  fn_ok Fn sc_after_put len_after_put fun cdv A outer s H E hr => ⟨t_after_put K (fun cls d _ H' => E cls d H'), by
    have tk := takes_of (X := cxOf (L2.CX P w) P w K mg base N_after_put "after_put" (defScope s_after_put) f cdv A outer s H E) (E := E) rfl rfl rfl rfl
    have po := passes_of (X := cxOf (L2.CX P w) P w K mg base N_after_put "after_put" (defScope s_after_put) f cdv A outer s H E) rfl
    exact (
    (pss_one (ps_ret (pe_tup (pa_cons (pv 1) (pa_cons (pe_ifExp (pt_cmpR (op_eqU hr) (pv 2) (pe_callB call_lenU (by rfl) Tx.z_len (by decide +kernel) (pa_cons (pv 0) pa_nil)) (nomark _)) pe_int (pv 2)) pa_nil)))))), fun ds sd h => ws_after_put h⟩
theorem ok_after_put (Tx : Txt K mg) (Fn : FnP K "after_put" s_after_put f fd) (hm : mg "after_put" = some (.ref f)) : Cal P w K mg base 1 "after_put" ["new", "end", "size"] F_after_put :=
  ⟨f, fd, hm, Fn.kp, Fn.bindsN (fun _ _ _ _ _ _ us hl => match us, hl with | [_, _, _], _ => rfl), fo_after_put Tx Fn⟩
abbrev s_all_ways : Stmt := top 21
abbrev N_all_ways : List Str := ["replacement", "states", "sign", "found", "state", "piece", "after", "ends", "end", "count"]
theorem sc_all_ways : FnScope N_all_ways ["replacement", "states", "sign"] (defScope s_all_ways) := ⟨rfl, rfl, rfl, by decide +kernel, rfl, by decide +kernel, by decide +kernel⟩
theorem fo_all_ways (Tx : Txt K mg) (C_spread : Cal P w K mg base 4 "spread" ["replacement", "ends"] F_spread) (C_ways_on : Cal P w K mg base 4 "ways_on" ["replacement", "state", "sign"] F_ways_on) (Fn : FnP K "all_ways" s_all_ways f fd) : FnOk P w K mg base (L2.CX P w) 5 f fd ["replacement", "states", "sign"] (spD K F_all_ways) :=
  fn_ok Fn sc_all_ways len_all_ways fun cdv A outer s H E hr => ⟨t_all_ways K (fun cls d _ H' => E cls d H') w, by
    have tk := takes_of (X := cxOf (L2.CX P w) P w K mg base N_all_ways "all_ways" (defScope s_all_ways) f cdv A outer s H E) (E := E) rfl rfl rfl rfl
    have po := passes_of (X := cxOf (L2.CX P w) P w K mg base N_all_ways "all_ways" (defScope s_all_ways) f cdv A outer s H E) rfl
    exact (
    (pss_cons (ps_set (i := 3) sc_all_ways.nd rfl (Or.inl rfl) pe_dnewN)
    (pss_cons (ps_for po rfl (pi_tup (pv 1)) (pg_name (i := 4) sc_all_ways.nd rfl (Or.inl rfl)) (pss_one (ps_for po rfl (pi_list (pe_callC C_ways_on tk (hr.mono (by decide)) rfl (pa_cons (pv 0) (pa_cons (pv 4) (pa_cons (pv 2) pa_nil))))) (pg_tup rfl (pgs_cons (pg_name (i := 5) sc_all_ways.nd rfl (Or.inl rfl)) (pgs_cons (pg_name (i := 6) sc_all_ways.nd rfl (Or.inl rfl)) pgs_nil))) (pss_one (ps_nput hr (pv 3) (pv 6) pe_bl (by rfl))))))
    (pss_cons (ps_setLc (i := 7) (own := [("end", 8), ("count", 9)]) rfl sc_all_ways.nd rfl rfl (sw_true rfl rfl rfl (by decide +kernel)) (pi_dicN (pv 3)) (blkOk_by (own := [("end", 8), ("count", 9)]) (N := N_all_ways) (sc := defScope s_all_ways) (by decide +kernel)) (fun _ _ _ _ _ => (pg_tup rfl (pgs_cons (pg_name (i := 8) sc_all_ways.nd rfl (Or.inl rfl)) (pgs_cons (pg_name (i := 9) sc_all_ways.nd rfl (Or.inl rfl)) pgs_nil)))) (fun _ _ _ _ _ => (pts_one (pt_cmpR (op_eqU hr) (pv 9) pe_int (nomark _)))) (fun _ _ _ _ _ => (pv 8)))
    (pss_cons (ps_for po rfl (pi_list (pe_callC C_spread tk (hr.mono (by decide)) rfl (pa_cons (pv 0) (pa_cons (pv 7) pa_nil)))) (pg_name (i := 8) sc_all_ways.nd rfl (Or.inl rfl)) (pss_one (ps_nput hr (pv 3) (pe_tup (pa_cons (pv 8) (pa_cons pe_int pa_nil))) pe_bl (by rfl))))
    (pss_one (ps_ret (pe_tupleOf (by rfl) Tx.z_tuple (pe_callB (cr_sortDk rfl hr) (by rfl) Tx.z_sorted (by decide +kernel) (pa_cons (pv 3) pa_nil)))))))))), fun ds sd h => ws_all_ways h⟩
theorem ok_all_ways (Tx : Txt K mg) (C_spread : Cal P w K mg base 4 "spread" ["replacement", "ends"] F_spread) (C_ways_on : Cal P w K mg base 4 "ways_on" ["replacement", "state", "sign"] F_ways_on) (Fn : FnP K "all_ways" s_all_ways f fd) (hm : mg "all_ways" = some (.ref f)) : Cal P w K mg base 5 "all_ways" ["replacement", "states", "sign"] F_all_ways :=
  ⟨f, fd, hm, Fn.kp, Fn.bindsN (fun _ _ _ _ _ _ us hl => match us, hl with | [_, _, _], _ => rfl), fo_all_ways Tx C_spread C_ways_on Fn⟩
abbrev s_start_states : Stmt := top 22
abbrev N_start_states : List Str := ["replacement", "end"]
theorem sc_start_states : FnScope N_start_states ["replacement"] (defScope s_start_states) := ⟨rfl, rfl, rfl, by decide +kernel, rfl, by decide +kernel, by decide +kernel⟩
theorem fo_start_states (Tx : Txt K mg) (C_spread : Cal P w K mg base 4 "spread" ["replacement", "ends"] F_spread) (Fn : FnP K "start_states" s_start_states f fd) : FnOk P w K mg base (L2.CX P w) 5 f fd ["replacement"] (spD K F_start_states) :=
  fn_ok Fn sc_start_states len_start_states fun cdv A outer s H E hr => ⟨t_start_states K (fun cls d _ H' => E cls d H'), by
    have tk := takes_of (X := cxOf (L2.CX P w) P w K mg base N_start_states "start_states" (defScope s_start_states) f cdv A outer s H E) (E := E) rfl rfl rfl rfl
    have po := passes_of (X := cxOf (L2.CX P w) P w K mg base N_start_states "start_states" (defScope s_start_states) f cdv A outer s H E) rfl
    exact (
    (pss_one (ps_ret (pe_tupleOf (by rfl) Tx.z_tuple (pe_callB (cr_sortedD hr) (by rfl) Tx.z_sorted (by decide +kernel) (pa_cons (pe_lc (own := [("end", 1)]) rfl sc_start_states.nd (pi_list (pe_callC C_spread tk (hr.mono (by decide)) rfl (pa_cons (pv 0) (pa_cons (pe_lst (pa_cons (pe_strE (y := []) (by decide +kernel)) pa_nil)) pa_nil)))) (blkOk_by (own := [("end", 1)]) (N := N_start_states) (sc := defScope s_start_states) (by decide +kernel)) (fun _ _ _ _ _ => (pg_name (i := 1) sc_start_states.nd rfl (Or.inl rfl))) (fun _ _ _ _ _ => pts_nil) (fun _ _ _ _ _ => (pe_tup (pa_cons (pv 1) (pa_cons pe_int pa_nil))))) pa_nil)))))), fun ds sd h => ws_start_states h⟩
theorem ok_start_states (Tx : Txt K mg) (C_spread : Cal P w K mg base 4 "spread" ["replacement", "ends"] F_spread) (Fn : FnP K "start_states" s_start_states f fd) (hm : mg "start_states" = some (.ref f)) : Cal P w K mg base 5 "start_states" ["replacement"] F_start_states :=
  ⟨f, fd, hm, Fn.kp, Fn.bindsN (fun _ _ _ _ _ _ us hl => match us, hl with | [_], _ => rfl), fo_start_states Tx C_spread Fn⟩
abbrev s_is_complete : Stmt := top 23
abbrev N_is_complete : List Str := ["states", "count", "end"]
theorem sc_is_complete : FnScope N_is_complete ["states"] (defScope s_is_complete) := ⟨rfl, rfl, rfl, by decide +kernel, rfl, by decide +kernel, by decide +kernel⟩
theorem fo_is_complete (Tx : Txt K mg) (Fn : FnP K "is_complete" s_is_complete f fd) : FnOk P w K mg base (L2.CX P w) 1 f fd ["states"] (spD K F_is_complete) :=
  fn_ok Fn sc_is_complete len_is_complete fun cdv A outer s H E hr => ⟨t_is_complete K (fun cls d _ H' => E cls d H'), by
    have tk := takes_of (X := cxOf (L2.CX P w) P w K mg base N_is_complete "is_complete" (defScope s_is_complete) f cdv A outer s H E) (E := E) rfl rfl rfl rfl
    have po := passes_of (X := cxOf (L2.CX P w) P w K mg base N_is_complete "is_complete" (defScope s_is_complete) f cdv A outer s H E) rfl
    exact (
    (pss_one (ps_ret (pe_callB (cr_any rfl) (by rfl) Tx.z_any (by decide +kernel) (pa_cons (pe_lc (own := [("end", 2), ("count", 1)]) rfl sc_is_complete.nd (pi_tup (pv 0)) (blkOk_by (own := [("end", 2), ("count", 1)]) (N := N_is_complete) (sc := defScope s_is_complete) (by decide +kernel)) (fun _ _ _ _ _ => (pg_tup rfl (pgs_cons (pg_name (i := 2) sc_is_complete.nd rfl (Or.inl rfl)) (pgs_cons (pg_name (i := 1) sc_is_complete.nd rfl (Or.inl rfl)) pgs_nil)))) (fun _ _ _ _ _ => pts_nil) (fun _ _ _ _ _ => (pe_cmpR (op_eqU hr) (pv 1) pe_int (nomark _)))) pa_nil))))), fun ds sd h => ws_is_complete h⟩
theorem ok_is_complete (Tx : Txt K mg) (Fn : FnP K "is_complete" s_is_complete f fd) (hm : mg "is_complete" = some (.ref f)) : Cal P w K mg base 1 "is_complete" ["states"] F_is_complete :=
  ⟨f, fd, hm, Fn.kp, Fn.bindsN (fun _ _ _ _ _ _ us hl => match us, hl with | [_], _ => rfl), fo_is_complete Tx Fn⟩
abbrev s_is_reached : Stmt := top 24
abbrev N_is_reached : List Str := ["replacement", "text", "states", "sign"]
theorem sc_is_reached : FnScope N_is_reached ["replacement", "text"] (defScope s_is_reached) := ⟨rfl, rfl, rfl, by decide +kernel, rfl, by decide +kernel, by decide +kernel⟩
theorem fo_is_reached (Tx : Txt K mg) (C_is_complete : Cal P w K mg base 1 "is_complete" ["states"] F_is_complete) (C_all_ways : Cal P w K mg base 5 "all_ways" ["replacement", "states", "sign"] F_all_ways) (C_start_states : Cal P w K mg base 5 "start_states" ["replacement"] F_start_states) (C_check_text : Cal P w K mg base 3 "check_text" ["value"] F_check_text) (C_check_replacement : Cal P w K mg base 3 "check_replacement" ["value"] F_check_replacement) (Fn : FnP K "is_reached" s_is_reached f fd) : FnOk P w K mg base (L2.CX P w) 6 f fd ["replacement", "text"] (spD K F_is_reached) :=
  fn_ok Fn sc_is_reached len_is_reached fun cdv A outer s H E hr => ⟨t_is_reached K (fun cls d _ H' => E cls d H'), by
    have tk := takes_of (X := cxOf (L2.CX P w) P w K mg base N_is_reached "is_reached" (defScope s_is_reached) f cdv A outer s H E) (E := E) rfl rfl rfl rfl
    have po := passes_of (X := cxOf (L2.CX P w) P w K mg base N_is_reached "is_reached" (defScope s_is_reached) f cdv A outer s H E) rfl
    exact (
    (pss_cons (ps_expr (pe_callC C_check_replacement tk (hr.mono (by decide)) rfl (pa_cons (pv 0) pa_nil)))
    (pss_cons (ps_expr (pe_callC C_check_text tk (hr.mono (by decide)) rfl (pa_cons (pv 1) pa_nil)))
    (pss_cons (ps_set (i := 2) sc_is_reached.nd rfl (Or.inl rfl) (pe_callC C_start_states tk (hr.mono (by decide)) rfl (pa_cons (pv 0) pa_nil)))
    (pss_cons (ps_for po rfl (pi_str (pv 1)) (pg_name (i := 3) sc_is_reached.nd rfl (Or.inl rfl)) (pss_one (ps_set (i := 2) sc_is_reached.nd rfl (Or.inl rfl) (pe_callC C_all_ways tk (hr.mono (by decide)) rfl (pa_cons (pv 0) (pa_cons (pv 2) (pa_cons (pv 3) pa_nil)))))))
    (pss_one (ps_ret (pe_callC C_is_complete tk (hr.mono (by decide)) rfl (pa_cons (pv 2) pa_nil))))))))), fun ds sd h => ws_is_reached h⟩
theorem ok_is_reached (Tx : Txt K mg) (C_is_complete : Cal P w K mg base 1 "is_complete" ["states"] F_is_complete) (C_all_ways : Cal P w K mg base 5 "all_ways" ["replacement", "states", "sign"] F_all_ways) (C_start_states : Cal P w K mg base 5 "start_states" ["replacement"] F_start_states) (C_check_text : Cal P w K mg base 3 "check_text" ["value"] F_check_text) (C_check_replacement : Cal P w K mg base 3 "check_replacement" ["value"] F_check_replacement) (Fn : FnP K "is_reached" s_is_reached f fd) (hm : mg "is_reached" = some (.ref f)) : Cal P w K mg base 6 "is_reached" ["replacement", "text"] F_is_reached :=
  ⟨f, fd, hm, Fn.kp, Fn.bindsN (fun _ _ _ _ _ _ us hl => match us, hl with | [_, _], _ => rfl), fo_is_reached Tx C_is_complete C_all_ways C_start_states C_check_text C_check_replacement Fn⟩
abbrev s_unreached_text : Stmt := top 25
abbrev N_unreached_text : List Str := ["replacement", "level", "known", "longer", "text", "states", "sign", "found"]
theorem sc_unreached_text : FnScope N_unreached_text ["replacement"] (defScope s_unreached_text) := ⟨rfl, rfl, rfl, by decide +kernel, rfl, by decide +kernel, by decide +kernel⟩
theorem fo_unreached_text (Tx : Txt K mg) (C_all_ways : Cal P w K mg base 5 "all_ways" ["replacement", "states", "sign"] F_all_ways) (C_is_complete : Cal P w K mg base 1 "is_complete" ["states"] F_is_complete) (C_start_states : Cal P w K mg base 5 "start_states" ["replacement"] F_start_states) (C_check_replacement : Cal P w K mg base 3 "check_replacement" ["value"] F_check_replacement) (Fn : FnP K "unreached_text" s_unreached_text f fd) : FnOk P w K mg base (L2.CX P w) 6 f fd ["replacement"] (spD K F_unreached_text) :=
  fn_ok Fn sc_unreached_text len_unreached_text fun cdv A outer s H E hr => ⟨t_unreached_text K (fun cls d _ H' => E cls d H') w, by
    have tk := takes_of (X := cxOf (L2.CX P w) P w K mg base N_unreached_text "unreached_text" (defScope s_unreached_text) f cdv A outer s H E) (E := E) rfl rfl rfl rfl
    have po := passes_of (X := cxOf (L2.CX P w) P w K mg base N_unreached_text "unreached_text" (defScope s_unreached_text) f cdv A outer s H E) rfl
    exact (
    (pss_cons (ps_expr (pe_callC C_check_replacement tk (hr.mono (by decide)) rfl (pa_cons (pv 0) pa_nil)))
    (pss_cons (ps_par (i := 1) (j := 2) rfl sc_unreached_text.nd rfl rfl (by decide) rfl rfl (pa_cons (pe_lst (pa_cons (pe_tup (pa_cons (pe_strE (y := []) (by decide +kernel)) (pa_cons (pe_callC C_start_states tk (hr.mono (by decide)) rfl (pa_cons (pv 0) pa_nil)) pa_nil))) pa_nil)) (pa_cons (pe_ndisp hr (pe_callC C_start_states tk (hr.mono (by decide)) rfl (pa_cons (pv 0) pa_nil)) pe_bl) pa_nil)) (by rfl))
    (pss_cons (ps_while po (pt_cmpR (op_neU hr) (pv 1) (pe_lst pa_nil) (nomark _)) (pss_cons (ps_set (i := 3) sc_unreached_text.nd rfl (Or.inl rfl) (pe_lst pa_nil))
    (pss_cons (ps_for po rfl (pi_list (pv 1)) (pg_tup rfl (pgs_cons (pg_name (i := 4) sc_unreached_text.nd rfl (Or.inl rfl)) (pgs_cons (pg_name (i := 5) sc_unreached_text.nd rfl (Or.inl rfl)) pgs_nil))) (pss_cons (ps_if (pt_not (pt_val (pe_callC C_is_complete tk (hr.mono (by decide)) rfl (pa_cons (pv 5) pa_nil)))) (pss_one (ps_ret (pv 4))) pss_nil)
    (pss_one (ps_for po rfl (pi_str (pe_gstr rfl Tx.c_SIGNS)) (pg_name (i := 6) sc_unreached_text.nd rfl (Or.inl rfl)) (pss_cons (ps_set (i := 7) sc_unreached_text.nd rfl (Or.inl rfl) (pe_callC C_all_ways tk (hr.mono (by decide)) rfl (pa_cons (pv 0) (pa_cons (pv 5) (pa_cons (pv 6) pa_nil)))))
    (pss_one (ps_if (pt_cmpR (op_niD hr) (pv 7) (pv 2) (by rfl)) (pss_cons (ps_nput hr (pv 2) (pv 7) pe_bl (by rfl))
    (pss_one (ps_expr (pe_bm PySem.F.plainAttrs_list PySem.F.slot_list_append PySem.F.type_list_append mt_append (pv 3) (pa_cons (pe_tup (pa_cons (pe_op op_addU (pv 4) (pv 6)) (pa_cons (pv 7) pa_nil))) pa_nil))))) pss_nil)))))))
    (pss_one (ps_set (i := 1) sc_unreached_text.nd rfl (Or.inl rfl) (pv 3))))))
    (pss_one (ps_ret pe_non)))))), fun ds sd h => ws_unreached_text h⟩
theorem ok_unreached_text (Tx : Txt K mg) (C_all_ways : Cal P w K mg base 5 "all_ways" ["replacement", "states", "sign"] F_all_ways) (C_is_complete : Cal P w K mg base 1 "is_complete" ["states"] F_is_complete) (C_start_states : Cal P w K mg base 5 "start_states" ["replacement"] F_start_states) (C_check_replacement : Cal P w K mg base 3 "check_replacement" ["value"] F_check_replacement) (Fn : FnP K "unreached_text" s_unreached_text f fd) (hm : mg "unreached_text" = some (.ref f)) : Cal P w K mg base 6 "unreached_text" ["replacement"] F_unreached_text :=
  ⟨f, fd, hm, Fn.kp, Fn.bindsN (fun _ _ _ _ _ _ us hl => match us, hl with | [_], _ => rfl), fo_unreached_text Tx C_all_ways C_is_complete C_start_states C_check_replacement Fn⟩
abbrev s_law_done : Stmt := top 27
abbrev N_law_done : List Str := ["step", "text", "old", "new", "found", "place"]
theorem sc_law_done : FnScope N_law_done ["step", "text"] (defScope s_law_done) := ⟨rfl, rfl, rfl, by decide +kernel, rfl, by decide +kernel, by decide +kernel⟩
theorem fo_law_done (Tx : Txt K mg) (Fn : FnP K "_law_done" s_law_done f fd) : FnOk P w K mg base (L2.CX P w) 1 f fd ["step", "text"] (spD K F_law_done) :=
  fn_ok Fn sc_law_done len_law_done fun cdv A outer s H E hr => ⟨t_law_done K (fun cls d _ H' => E cls d H'), by
    have tk := takes_of (X := cxOf (L2.CX P w) P w K mg base N_law_done "_law_done" (defScope s_law_done) f cdv A outer s H E) (E := E) rfl rfl rfl rfl
    have po := passes_of (X := cxOf (L2.CX P w) P w K mg base N_law_done "_law_done" (defScope s_law_done) f cdv A outer s H E) rfl
    exact (
    (pss_cons (ps_asg (pv 0) (pg_tup rfl (pgs_cons (pg_name (i := 2) sc_law_done.nd rfl (Or.inl rfl)) (pgs_cons (pg_name (i := 3) sc_law_done.nd rfl (Or.inl rfl)) pgs_nil))))
    (pss_cons (ps_asg (pe_tup (pa_cons (pe_strE (y := []) (by decide +kernel)) (pa_cons pe_int pa_nil))) (pg_tup rfl (pgs_cons (pg_name (i := 4) sc_law_done.nd rfl (Or.inl rfl)) (pgs_cons (pg_name (i := 5) sc_law_done.nd rfl (Or.inl rfl)) pgs_nil))))
    (pss_cons (ps_while po (pt_cmpR op_ltU (pv 5) (pe_callB call_lenU (by rfl) Tx.z_len (by decide +kernel) (pa_cons (pv 1) pa_nil)) (nomark _)) (pss_one (ps_if (pt_cmpR (op_eqU hr) (pe_slice sl_U (pv 1) (po_some (pv 5)) (po_some (pe_op op_addU (pv 5) (pe_callB call_lenU (by rfl) Tx.z_len (by decide +kernel) (pa_cons (pv 2) pa_nil))))) (pv 2) (nomark _)) (pss_one (ps_par (i := 4) (j := 5) rfl sc_law_done.nd rfl rfl (by decide) rfl rfl (pa_cons (pe_op op_addU (pv 4) (pv 3)) (pa_cons (pe_op op_addU (pv 5) (pe_callB call_lenU (by rfl) Tx.z_len (by decide +kernel) (pa_cons (pv 2) pa_nil))) pa_nil)) (by rfl))) (pss_one (ps_par (i := 4) (j := 5) rfl sc_law_done.nd rfl rfl (by decide) rfl rfl (pa_cons (pe_op op_addU (pv 4) (pe_ix ix_seq (pv 1) (pv 5) (fun _ _ => rfl))) (pa_cons (pe_op op_addU (pv 5) pe_int) pa_nil)) (by rfl))))))
    (pss_one (ps_ret (pv 4))))))), fun ds sd h => ws_law_done h⟩
theorem ok_law_done (Tx : Txt K mg) (Fn : FnP K "_law_done" s_law_done f fd) (hm : mg "_law_done" = some (.ref f)) : Cal P w K mg base 1 "_law_done" ["step", "text"] F_law_done :=
  ⟨f, fd, hm, Fn.kp, Fn.bindsN (fun _ _ _ _ _ _ us hl => match us, hl with | [_, _], _ => rfl), fo_law_done Tx Fn⟩
abbrev s_law_pick : Stmt := top 28
abbrev N_law_pick : List Str := ["script", "k", "many", "cell", "rest", "again", "drawn"]
theorem sc_law_pick : FnScope N_law_pick ["script", "k", "many"] (defScope s_law_pick) := ⟨rfl, rfl, rfl, by decide +kernel, rfl, by decide +kernel, by decide +kernel⟩
theorem fo_law_pick (Tx : Txt K mg) (Fn : FnP K "_law_pick" s_law_pick f fd) : FnOk P w K mg base (L2.CX P w) 1 f fd ["script", "k", "many"] (spD K F_law_pick) :=
  fn_ok Fn sc_law_pick len_law_pick fun cdv A outer s H E hr => ⟨t_law_pick K (fun cls d _ H' => E cls d H'), by
    have tk := takes_of (X := cxOf (L2.CX P w) P w K mg base N_law_pick "_law_pick" (defScope s_law_pick) f cdv A outer s H E) (E := E) rfl rfl rfl rfl
    have po := passes_of (X := cxOf (L2.CX P w) P w K mg base N_law_pick "_law_pick" (defScope s_law_pick) f cdv A outer s H E) rfl
    exact (
    (pss_cons (ps_set (i := 3) sc_law_pick.nd rfl (Or.inl rfl) (pe_ifExp (pt_cmpR (op_neU hr) (pv 0) (pe_lst pa_nil) (nomark _)) (pe_ix ix_seq (pv 0) (pe_op op_modU (pv 1) (pe_callB call_lenU (by rfl) Tx.z_len (by decide +kernel) (pa_cons (pv 0) pa_nil))) (fun _ _ => rfl)) pe_int))
    (pss_cons (ps_par (i := 4) (j := 5) rfl sc_law_pick.nd rfl rfl (by decide) rfl rfl (pa_cons (pe_op op_divU (pv 3) (pe_op op_powU pe_int pe_int)) (pa_cons (pe_op op_divU (pv 1) (pe_callB (call_max2U hr rfl) (by rfl) Tx.z_max (by decide +kernel) (pa_cons (pe_callB call_lenU (by rfl) Tx.z_len (by decide +kernel) (pa_cons (pv 0) pa_nil)) (pa_cons pe_int pa_nil)))) pa_nil)) (by rfl))
    (pss_cons (ps_while po (PW.pt (pw_and (pt_cmpR op_gtU (pv 4) pe_int (nomark _)) (pw_and1 (pt_cmpR op_gtU (pv 5) pe_int (nomark _))))) (pss_one (ps_par (i := 4) (j := 5) rfl sc_law_pick.nd rfl rfl (by decide) rfl rfl (pa_cons (pe_op op_divU (pv 4) pe_int) (pa_cons (pe_op op_subU (pv 5) pe_int) pa_nil)) (by rfl))))
    (pss_cons (ps_if (pt_cmpR op_gtU (pv 4) pe_int (nomark _)) (pss_one (ps_ret (pe_op op_modU (pe_op op_modU (pv 4) pe_int) (pv 2)))) pss_nil)
    (pss_cons (ps_set (i := 6) sc_law_pick.nd rfl (Or.inl rfl) (pe_op op_modU (pe_op op_mulU (pe_op op_addU (pe_op op_mulU (pv 3) pe_int) (pe_op op_mulU pe_int (pe_op op_addU (pv 1) pe_int))) pe_int) pe_int))
    (pss_one (ps_ret (pe_op op_modU (pe_op op_modU (pe_op op_addU (pe_op op_mulU (pv 6) (pv 6)) (pe_op op_divU (pv 6) pe_int)) pe_int) (pv 2)))))))))), fun ds sd h => ws_law_pick h⟩
theorem ok_law_pick (Tx : Txt K mg) (Fn : FnP K "_law_pick" s_law_pick f fd) (hm : mg "_law_pick" = some (.ref f)) : Cal P w K mg base 1 "_law_pick" ["script", "k", "many"] F_law_pick :=
  ⟨f, fd, hm, Fn.kp, Fn.bindsN (fun _ _ _ _ _ _ us hl => match us, hl with | [_, _, _], _ => rfl), fo_law_pick Tx Fn⟩
abbrev s_law_word : Stmt := top 29
abbrev N_law_word : List Str := ["script", "place", "least", "most", "size", "i"]
theorem sc_law_word : FnScope N_law_word ["script", "place", "least", "most"] (defScope s_law_word) := ⟨rfl, rfl, rfl, by decide +kernel, rfl, by decide +kernel, by decide +kernel⟩
theorem fo_law_word (Tx : Txt K mg) (C_law_pick : Cal P w K mg base 1 "_law_pick" ["script", "k", "many"] F_law_pick) (Fn : FnP K "_law_word" s_law_word f fd) : FnOk P w K mg base (L2.CX P w) 2 f fd ["script", "place", "least", "most"] (spD K F_law_word) :=
  fn_ok Fn sc_law_word len_law_word fun cdv A outer s H E hr => ⟨t_law_word K (fun cls d _ H' => E cls d H'), by
    have tk := takes_of (X := cxOf (L2.CX P w) P w K mg base N_law_word "_law_word" (defScope s_law_word) f cdv A outer s H E) (E := E) rfl rfl rfl rfl
    have po := passes_of (X := cxOf (L2.CX P w) P w K mg base N_law_word "_law_word" (defScope s_law_word) f cdv A outer s H E) rfl
    exact (
    (pss_cons (ps_set (i := 4) sc_law_word.nd rfl (Or.inl rfl) (pe_op op_addU (pv 2) (pe_callC C_law_pick tk (hr.mono (by decide)) rfl (pa_cons (pv 0) (pa_cons (pv 1) (pa_cons (pe_op op_addU (pe_op op_subU (pv 3) (pv 2)) pe_int) pa_nil))))))
    (pss_one (ps_ret (pe_joinU (pe_strE (y := []) (by decide +kernel)) (pe_lc (own := [("i", 5)]) rfl sc_law_word.nd (pi_range1 (by rfl) Tx.z_range (pa_cons (pv 4) pa_nil)) (blkOk_by (own := [("i", 5)]) (N := N_law_word) (sc := defScope s_law_word) (by decide +kernel)) (fun _ _ _ _ _ => (pg_name (i := 5) sc_law_word.nd rfl (Or.inl rfl))) (fun _ _ _ _ _ => pts_nil) (fun _ _ _ _ _ => (pe_ix ix_seq (pe_strE (y := [97, 97, 98, 97, 98, 99]) (by decide +kernel)) (pe_callC C_law_pick takes0 (hr.mono (by decide)) rfl (pa_cons (pv 0) (pa_cons (pe_op op_addU (pe_op op_addU (pv 1) pe_int) (pv 5)) (pa_cons pe_int pa_nil)))) (fun _ _ => rfl))))))))), fun ds sd h => ws_law_word h⟩
theorem ok_law_word (Tx : Txt K mg) (C_law_pick : Cal P w K mg base 1 "_law_pick" ["script", "k", "many"] F_law_pick) (Fn : FnP K "_law_word" s_law_word f fd) (hm : mg "_law_word" = some (.ref f)) : Cal P w K mg base 2 "_law_word" ["script", "place", "least", "most"] F_law_word :=
  ⟨f, fd, hm, Fn.kp, Fn.bindsN (fun _ _ _ _ _ _ us hl => match us, hl with | [_, _, _, _], _ => rfl), fo_law_word Tx C_law_pick Fn⟩
abbrev s_law_step : Stmt := top 30
abbrev N_law_step : List Str := ["script", "place", "old", "new", "sort"]
theorem sc_law_step : FnScope N_law_step ["script", "place"] (defScope s_law_step) := ⟨rfl, rfl, rfl, by decide +kernel, rfl, by decide +kernel, by decide +kernel⟩
theorem fo_law_step (Tx : Txt K mg) (C_law_pick : Cal P w K mg base 1 "_law_pick" ["script", "k", "many"] F_law_pick) (C_law_word : Cal P w K mg base 2 "_law_word" ["script", "place", "least", "most"] F_law_word) (Fn : FnP K "_law_step" s_law_step f fd) : FnOk P w K mg base (L2.CX P w) 3 f fd ["script", "place"] (spD K F_law_step) :=
  fn_ok Fn sc_law_step len_law_step fun cdv A outer s H E hr => ⟨t_law_step K (fun cls d _ H' => E cls d H'), by
    have tk := takes_of (X := cxOf (L2.CX P w) P w K mg base N_law_step "_law_step" (defScope s_law_step) f cdv A outer s H E) (E := E) rfl rfl rfl rfl
    have po := passes_of (X := cxOf (L2.CX P w) P w K mg base N_law_step "_law_step" (defScope s_law_step) f cdv A outer s H E) rfl
    exact (
    (pss_cons (ps_par (i := 2) (j := 3) rfl sc_law_step.nd rfl rfl (by decide) rfl rfl (pa_cons (pe_callC C_law_word tk (hr.mono (by decide)) rfl (pa_cons (pv 0) (pa_cons (pv 1) (pa_cons pe_int (pa_cons pe_int pa_nil))))) (pa_cons (pe_callC C_law_word tk (hr.mono (by decide)) rfl (pa_cons (pv 0) (pa_cons (pe_op op_addU (pv 1) pe_int) (pa_cons pe_int (pa_cons pe_int pa_nil))))) pa_nil)) (by rfl))
    (pss_cons (ps_set (i := 4) sc_law_step.nd rfl (Or.inl rfl) (pe_callC C_law_pick tk (hr.mono (by decide)) rfl (pa_cons (pv 0) (pa_cons (pe_op op_addU (pv 1) pe_int) (pa_cons pe_int pa_nil)))))
    (pss_cons (ps_if (pt_cmpR (op_eqU hr) (pv 4) pe_int (nomark _)) (pss_one (ps_set (i := 3) sc_law_step.nd rfl (Or.inl rfl) (pe_slice sl_U (pe_op op_addU (pv 2) (pe_strE (y := [98]) (by decide +kernel))) po_none (po_some pe_int)))) (pss_one (ps_if (pt_cmpR (op_eqU hr) (pv 4) pe_int (nomark _)) (pss_one (ps_set (i := 3) sc_law_step.nd rfl (Or.inl rfl) (pe_revS (pv 2)))) (pss_one (ps_if (pt_cmpR (op_eqU hr) (pv 4) pe_int (nomark _)) (pss_one (ps_set (i := 3) sc_law_step.nd rfl (Or.inl rfl) (pe_slice sl_U (pv 2) (po_some pe_int) po_none))) (pss_one (ps_if (pt_cmpR (op_eqU hr) (pv 4) pe_int (nomark _)) (pss_one (ps_par (i := 2) (j := 3) rfl sc_law_step.nd rfl rfl (by decide) rfl rfl (pa_cons (pe_slice sl_U (pv 2) po_none (po_some pe_int)) (pa_cons (pe_slice sl_U (pv 3) po_none (po_some pe_int)) pa_nil)) (by rfl))) pss_nil)))))))
    (pss_one (ps_ret (pe_tup (pa_cons (pv 2) (pa_cons (pv 3) pa_nil))))))))), fun ds sd h => ws_law_step h⟩
theorem ok_law_step (Tx : Txt K mg) (C_law_pick : Cal P w K mg base 1 "_law_pick" ["script", "k", "many"] F_law_pick) (C_law_word : Cal P w K mg base 2 "_law_word" ["script", "place", "least", "most"] F_law_word) (Fn : FnP K "_law_step" s_law_step f fd) (hm : mg "_law_step" = some (.ref f)) : Cal P w K mg base 3 "_law_step" ["script", "place"] F_law_step :=
  ⟨f, fd, hm, Fn.kp, Fn.bindsN (fun _ _ _ _ _ _ us hl => match us, hl with | [_, _], _ => rfl), fo_law_step Tx C_law_pick C_law_word Fn⟩
abbrev s_law_texts : Stmt := top 31
abbrev N_law_texts : List Str := ["most", "found", "level", "i", "longer", "text", "sign"]
theorem sc_law_texts : FnScope N_law_texts ["most"] (defScope s_law_texts) := ⟨rfl, rfl, rfl, by decide +kernel, rfl, by decide +kernel, by decide +kernel⟩
theorem fo_law_texts (Tx : Txt K mg) (Fn : FnP K "_law_texts" s_law_texts f fd) : FnOk P w K mg base (L2.CX P w) 1 f fd ["most"] (spD K F_law_texts) :=
  fn_ok Fn sc_law_texts len_law_texts fun cdv A outer s H E hr => ⟨t_law_texts K (fun cls d _ H' => E cls d H'), by
    have tk := takes_of (X := cxOf (L2.CX P w) P w K mg base N_law_texts "_law_texts" (defScope s_law_texts) f cdv A outer s H E) (E := E) rfl rfl rfl rfl
    have po := passes_of (X := cxOf (L2.CX P w) P w K mg base N_law_texts "_law_texts" (defScope s_law_texts) f cdv A outer s H E) rfl
    exact (
    (pss_cons (ps_par (i := 1) (j := 2) rfl sc_law_texts.nd rfl rfl (by decide) rfl rfl (pa_cons (pe_lst (pa_cons (pe_strE (y := []) (by decide +kernel)) pa_nil)) (pa_cons (pe_lst (pa_cons (pe_strE (y := []) (by decide +kernel)) pa_nil)) pa_nil)) (by rfl))
    (pss_cons (ps_for po rfl (pi_range1 (by rfl) Tx.z_range (pa_cons (pv 0) pa_nil)) (pg_name (i := 3) sc_law_texts.nd rfl (Or.inl rfl)) (pss_cons (ps_set (i := 4) sc_law_texts.nd rfl (Or.inl rfl) (pe_lst pa_nil))
    (pss_cons (ps_for po rfl (pi_list (pv 2)) (pg_name (i := 5) sc_law_texts.nd rfl (Or.inr rfl)) (pss_one (ps_expr (pe_bm PySem.F.plainAttrs_list PySem.F.slot_list_extend PySem.F.type_list_extend mt_extend (pv 4) (pa_cons (pe_lc (own := [("sign", 6)]) rfl sc_law_texts.nd (pi_str (pe_strE (y := [97, 98, 99]) (by decide +kernel))) (blkOk_by (own := [("sign", 6)]) (N := N_law_texts) (sc := defScope s_law_texts) (by decide +kernel)) (fun _ _ _ _ _ => (pg_name (i := 6) sc_law_texts.nd rfl (Or.inl rfl))) (fun _ _ _ _ _ => pts_nil) (fun _ _ _ _ _ => (pe_op op_addU (pv 5) (pv 6)))) pa_nil)))))
    (pss_cons (ps_set (i := 2) sc_law_texts.nd rfl (Or.inl rfl) (pv 4))
    (pss_one (ps_expr (pe_bm PySem.F.plainAttrs_list PySem.F.slot_list_extend PySem.F.type_list_extend mt_extend (pv 1) (pa_cons (pv 2) pa_nil))))))))
    (pss_one (ps_ret (pv 1)))))), fun ds sd h => ws_law_texts h⟩
theorem ok_law_texts (Tx : Txt K mg) (Fn : FnP K "_law_texts" s_law_texts f fd) (hm : mg "_law_texts" = some (.ref f)) : Cal P w K mg base 1 "_law_texts" ["most"] F_law_texts :=
  ⟨f, fd, hm, Fn.kp, Fn.bindsN (fun _ _ _ _ _ _ us hl => match us, hl with | [_], _ => rfl), fo_law_texts Tx Fn⟩
abbrev s_law_reaches : Stmt := top 32
abbrev N_law_reaches : List Str := ["step", "text", "old", "new", "rows", "longer", "begun", "place", "ends", "end"]
theorem sc_law_reaches : FnScope N_law_reaches ["step", "text"] (defScope s_law_reaches) := ⟨rfl, rfl, rfl, by decide +kernel, rfl, by decide +kernel, by decide +kernel⟩
theorem fo_law_reaches (Tx : Txt K mg) (C_law_done : Cal P w K mg base 1 "_law_done" ["step", "text"] F_law_done) (Fn : FnP K "_law_reaches" s_law_reaches f fd) : FnOk P w K mg base (L2.CX P w) 2 f fd ["step", "text"] (spD K F_law_reaches) :=
  fn_ok Fn sc_law_reaches len_law_reaches fun cdv A outer s H E hr => ⟨t_law_reaches K (fun cls d _ H' => E cls d H'), by
    have tk := takes_of (X := cxOf (L2.CX P w) P w K mg base N_law_reaches "_law_reaches" (defScope s_law_reaches) f cdv A outer s H E) (E := E) rfl rfl rfl rfl
    have po := passes_of (X := cxOf (L2.CX P w) P w K mg base N_law_reaches "_law_reaches" (defScope s_law_reaches) f cdv A outer s H E) rfl
    exact (
    (pss_cons (ps_asg (pv 0) (pg_tup rfl (pgs_cons (pg_name (i := 2) sc_law_reaches.nd rfl (Or.inl rfl)) (pgs_cons (pg_name (i := 3) sc_law_reaches.nd rfl (Or.inl rfl)) pgs_nil))))
    (pss_cons (ps_set (i := 4) sc_law_reaches.nd rfl (Or.inl rfl) (pe_lst (pa_cons (pe_tup (pa_cons (pe_strE (y := []) (by decide +kernel)) (pa_cons pe_int pa_nil))) pa_nil)))
    (pss_cons (ps_while po (pt_cmpR (op_neU hr) (pv 4) (pe_lst pa_nil) (nomark _)) (pss_cons (ps_set (i := 5) sc_law_reaches.nd rfl (Or.inl rfl) (pe_lst pa_nil))
    (pss_cons (ps_for po rfl (pi_list (pv 4)) (pg_tup rfl (pgs_cons (pg_name (i := 6) sc_law_reaches.nd rfl (Or.inl rfl)) (pgs_cons (pg_name (i := 7) sc_law_reaches.nd rfl (Or.inl rfl)) pgs_nil))) (pss_one (ps_if (pt_cmpR (op_eqU hr) (pv 7) (pe_callB call_lenU (by rfl) Tx.z_len (by decide +kernel) (pa_cons (pv 1) pa_nil)) (nomark _)) (pss_cons (ps_set (i := 8) sc_law_reaches.nd rfl (Or.inl rfl) (pe_op op_addU (pe_lst (pa_cons (pv 6) pa_nil)) (pe_op op_mulB (pe_lst (pa_cons (pe_op op_addU (pv 6) (pv 2)) pa_nil)) (pe_cmpR (op_eqU hr) (pv 3) (pe_strE (y := []) (by decide +kernel)) (nomark _)))))
    (pss_one (ps_if (pt_val (pe_callB (cr_any rfl) (by rfl) Tx.z_any (by decide +kernel) (pa_cons (pe_lc (own := [("end", 9)]) rfl sc_law_reaches.nd (pi_list (pv 8)) (blkOk_by (own := [("end", 9)]) (N := N_law_reaches) (sc := defScope s_law_reaches) (by decide +kernel)) (fun _ _ _ _ _ => (pg_name (i := 9) sc_law_reaches.nd rfl (Or.inl rfl))) (fun _ _ _ _ _ => pts_nil) (fun _ _ _ _ _ => (pe_cmpR (op_eqU hr) (pe_callC C_law_done takes0 (hr.mono (by decide)) rfl (pa_cons (pv 0) (pa_cons (pv 9) pa_nil))) (pv 1) (nomark _)))) pa_nil))) (pss_one (ps_ret pe_bl)) pss_nil))) (pss_cons (ps_expr (pe_bm PySem.F.plainAttrs_list PySem.F.slot_list_append PySem.F.type_list_append mt_append (pv 5) (pa_cons (pe_tup (pa_cons (pe_op op_addU (pv 6) (pe_ix ix_seq (pv 1) (pv 7) (fun _ _ => rfl))) (pa_cons (pe_op op_addU (pv 7) pe_int) pa_nil))) pa_nil)))
    (pss_one (ps_if (pt_cmpR (op_eqU hr) (pv 3) (pe_strE (y := []) (by decide +kernel)) (nomark _)) (pss_one (ps_expr (pe_bm PySem.F.plainAttrs_list PySem.F.slot_list_append PySem.F.type_list_append mt_append (pv 5) (pa_cons (pe_tup (pa_cons (pe_op op_addU (pe_op op_addU (pv 6) (pv 2)) (pe_ix ix_seq (pv 1) (pv 7) (fun _ _ => rfl))) (pa_cons (pe_op op_addU (pv 7) pe_int) pa_nil))) pa_nil)))) (pss_one (ps_if (pt_cmpR (op_eqU hr) (pe_slice sl_U (pv 1) (po_some (pv 7)) (po_some (pe_op op_addU (pv 7) (pe_callB call_lenU (by rfl) Tx.z_len (by decide +kernel) (pa_cons (pv 3) pa_nil))))) (pv 3) (nomark _)) (pss_one (ps_expr (pe_bm PySem.F.plainAttrs_list PySem.F.slot_list_append PySem.F.type_list_append mt_append (pv 5) (pa_cons (pe_tup (pa_cons (pe_op op_addU (pv 6) (pv 2)) (pa_cons (pe_op op_addU (pv 7) (pe_callB call_lenU (by rfl) Tx.z_len (by decide +kernel) (pa_cons (pv 3) pa_nil))) pa_nil))) pa_nil)))) pss_nil))))))))
    (pss_one (ps_set (i := 4) sc_law_reaches.nd rfl (Or.inl rfl) (pv 5))))))
    (pss_one (ps_ret pe_bl)))))), fun ds sd h => ws_law_reaches h⟩
theorem ok_law_reaches (Tx : Txt K mg) (C_law_done : Cal P w K mg base 1 "_law_done" ["step", "text"] F_law_done) (Fn : FnP K "_law_reaches" s_law_reaches f fd) (hm : mg "_law_reaches" = some (.ref f)) : Cal P w K mg base 2 "_law_reaches" ["step", "text"] F_law_reaches :=
  ⟨f, fd, hm, Fn.kp, Fn.bindsN (fun _ _ _ _ _ _ us hl => match us, hl with | [_, _], _ => rfl), fo_law_reaches Tx C_law_done Fn⟩
abbrev s_law : Stmt := top 33
abbrev N_law : List Str := ["script", "i", "step", "missing", "text", "due", "j", "shown", "drawn", "k"]
theorem sc_law : FnScope N_law ["script"] (defScope s_law) := ⟨rfl, rfl, rfl, by decide +kernel, rfl, by decide +kernel, by decide +kernel⟩
theorem fo_law (Tx : Txt K mg) (C_unreached_text : Cal P w K mg base 6 "unreached_text" ["replacement"] F_unreached_text) (C_is_reached : Cal P w K mg base 6 "is_reached" ["replacement", "text"] F_is_reached) (C_law_word : Cal P w K mg base 2 "_law_word" ["script", "place", "least", "most"] F_law_word) (C_is_text : Cal P w K mg base 2 "is_text" ["candidate"] F_is_text) (C_law_reaches : Cal P w K mg base 2 "_law_reaches" ["step", "text"] F_law_reaches) (C_law_texts : Cal P w K mg base 1 "_law_texts" ["most"] F_law_texts) (C_law_pick : Cal P w K mg base 1 "_law_pick" ["script", "k", "many"] F_law_pick) (C_law_step : Cal P w K mg base 3 "_law_step" ["script", "place"] F_law_step) (Fn : FnP K "law" s_law f fd) : FnOk P w K mg base CX0 7 f fd ["script"] (spD K F_law) :=
  fn_okL Fn sc_law len_law (by rintro _ _ c ⟨_, _, _, rfl⟩ z; cases z) fun cdv A outer s H E hr => ⟨t_law K (fun _ _ _ _ => False), by
    have tk := takes0 (X := cxOf CX0 P w K mg base N_law "law" (defScope s_law) f cdv A outer s H E)
    have po := passes_of (X := cxOf CX0 P w K mg base N_law "law" (defScope s_law) f cdv A outer s H E) rfl
    exact (
    (pss_cons (ps_for po rfl (pi_range1 (by rfl) Tx.z_range (pa_cons pe_int pa_nil)) (pg_name (i := 1) sc_law.nd rfl (Or.inl rfl)) (pss_cons (ps_set (i := 2) sc_law.nd rfl (Or.inr rfl) (pe_callC C_law_step tk (hr.mono (by decide)) rfl (pa_cons (pv 0) (pa_cons (pe_op op_mulU pe_int (pv 1)) pa_nil))))
    (pss_cons (ps_if (pt_cmpR (op_eqU hr) (pe_callC C_law_pick tk (hr.mono (by decide)) rfl (pa_cons (pv 0) (pa_cons (pe_op op_addU (pe_op op_mulU pe_int (pv 1)) pe_int) (pa_cons pe_int pa_nil)))) pe_int (nomark _)) (pss_one (ps_set (i := 2) sc_law.nd rfl (Or.inr rfl) (pe_tup (pa_cons (pe_ix ix_seq (pv 2) pe_int (fun _ _ => rfl)) (pa_cons (pe_strE (y := []) (by decide +kernel)) pa_nil))))) pss_nil)
    (pss_cons (ps_set (i := 3) sc_law.nd rfl (Or.inl rfl) (pe_lst pa_nil))
    (pss_cons (ps_for po rfl (pi_list (pe_callC C_law_texts tk (hr.mono (by decide)) rfl (pa_cons pe_int pa_nil))) (pg_name (i := 4) sc_law.nd rfl (Or.inl rfl)) (pss_cons (ps_set (i := 5) sc_law.nd rfl (Or.inl rfl) (pe_callC C_law_reaches tk (hr.mono (by decide)) rfl (pa_cons (pv 2) (pa_cons (pv 4) pa_nil))))
    (pss_cons (ps_if (pt_cmpR (op_neU hr) (pe_callC C_is_reached tk (hr.mono (by decide)) rfl (pa_cons (pv 2) (pa_cons (pv 4) pa_nil))) (pv 5) (nomark _)) (pss_one (ps_ret pe_bl)) pss_nil)
    (pss_one (ps_if (pt_not (pt_val (pv 5))) (pss_one (ps_expr (pe_bm PySem.F.plainAttrs_list PySem.F.slot_list_append PySem.F.type_list_append mt_append (pv 3) (pa_cons (pv 4) pa_nil)))) pss_nil)))))
    (pss_cons (ps_for po rfl (pi_range1 (by rfl) Tx.z_range (pa_cons pe_int pa_nil)) (pg_name (i := 6) sc_law.nd rfl (Or.inl rfl)) (pss_cons (ps_set (i := 4) sc_law.nd rfl (Or.inl rfl) (pe_callC C_law_word tk (hr.mono (by decide)) rfl (pa_cons (pv 0) (pa_cons (pe_op op_addU (pe_op op_addU (pe_op op_mulU pe_int (pv 1)) pe_int) (pe_op op_mulU pe_int (pv 6))) (pa_cons pe_int (pa_cons pe_int pa_nil))))))
    (pss_one (ps_if (pt_cmpR (op_neU hr) (pe_callC C_is_reached tk (hr.mono (by decide)) rfl (pa_cons (pv 2) (pa_cons (pv 4) pa_nil))) (pe_callC C_law_reaches tk (hr.mono (by decide)) rfl (pa_cons (pv 2) (pa_cons (pv 4) pa_nil))) (nomark _)) (pss_one (ps_ret pe_bl)) pss_nil))))
    (pss_cons (ps_set (i := 7) sc_law.nd rfl (Or.inl rfl) (pe_callC C_unreached_text tk (hr.mono (by decide)) rfl (pa_cons (pv 2) pa_nil)))
    (pss_cons (ps_if (PW.pt (pw_and (pt_cmpR (op_neU hr) (pv 3) (pe_lst pa_nil) (nomark _)) (pw_and1 (pt_cmpR (op_neU hr) (pv 7) (pe_ix ix_seq (pv 3) pe_int (fun _ _ => rfl)) (nomark _))))) (pss_one (ps_ret pe_bl)) pss_nil)
    (pss_cons (ps_if (PW.pt (pw_and (pt_cmpR (op_eqU hr) (pv 3) (pe_lst pa_nil) (nomark _)) (pw_and1 (pt_cmpR op_ntU (pv 7) pe_non (nomark _))))) (pss_one (ps_if (PW.pt (pw_or (pt_not (pt_val (pe_callC C_is_text tk (hr.mono (by decide)) rfl (pa_cons (pv 7) pa_nil)))) (pw_or (pt_cmpR op_ltU (pe_callB call_lenU (by rfl) Tx.z_len (by decide +kernel) (pa_cons (pv 7) pa_nil)) pe_int (nomark _)) (pw_or1 (pt_cmpR op_ntU (pe_callC C_is_reached tk (hr.mono (by decide)) rfl (pa_cons (pv 2) (pa_cons (pv 7) pa_nil))) pe_bl (nomark _)))))) (pss_one (ps_ret pe_bl)) pss_nil)) pss_nil)
    (pss_cons (ps_setLc (i := 8) (own := [("k", 9)]) rfl sc_law.nd rfl rfl (sw_true rfl rfl rfl (by decide +kernel)) (pi_range1 (by rfl) Tx.z_range (pa_cons pe_int pa_nil)) (blkOk_by (own := [("k", 9)]) (N := N_law) (sc := defScope s_law) (by decide +kernel)) (fun _ _ _ _ _ => (pg_name (i := 9) sc_law.nd rfl (Or.inl rfl))) (fun _ _ _ _ _ => pts_nil) (fun _ _ _ _ _ => (pe_callC C_law_word takes0 (hr.mono (by decide)) rfl (pa_cons (pv 0) (pa_cons (pe_op op_addU pe_int (pe_op op_mulU pe_int (pv 9))) (pa_cons pe_int (pa_cons pe_int pa_nil)))))))
    (pss_one (ps_if (PW.pt (pw_and (pt_cmpR op_isU (pv 7) pe_non (nomark _)) (pw_and1 (pt_not (pt_val (pe_callB (cr_all rfl) (by rfl) Tx.z_all (by decide +kernel) (pa_cons (pe_lc (own := [("text", 4)]) rfl sc_law.nd (pi_list (pv 8)) (blkOk_by (own := [("text", 4)]) (N := N_law) (sc := defScope s_law) (by decide +kernel)) (fun _ _ _ _ _ => (pg_name (i := 4) sc_law.nd rfl (Or.inl rfl))) (fun _ _ _ _ _ => pts_nil) (fun _ _ _ _ _ => (pe_callC C_is_reached takes0 (hr.mono (by decide)) rfl (pa_cons (pv 2) (pa_cons (pv 4) pa_nil))))) pa_nil))))))) (pss_one (ps_ret pe_bl)) pss_nil))))))))))))
    (pss_one (ps_ret (pe_and (pe_cmpR (op_eqU hr) (pe_callC C_unreached_text tk (hr.mono (by decide)) rfl (pa_cons (pe_tup (pa_cons (pe_strE (y := [97]) (by decide +kernel)) (pa_cons (pe_strE (y := [97, 97]) (by decide +kernel)) pa_nil))) pa_nil)) (pe_strE (y := [97]) (by decide +kernel)) (nomark _)) (pe_one (pe_cmpR op_isU (pe_callC C_unreached_text tk (hr.mono (by decide)) rfl (pa_cons (pe_tup (pa_cons (pe_strE (y := [97]) (by decide +kernel)) (pa_cons (pe_strE (y := [97]) (by decide +kernel)) pa_nil))) pa_nil)) pe_non (nomark _)))))))), fun ds sd h => ws_law h⟩
end
end Sw
/-! part H12 -/
set_option Elab.async false
set_option linter.all false
set_option maxRecDepth 100000
set_option maxHeartbeats 4000000
namespace Sw
open PySem PySem.Spec L2
def d_is_string : He.DefD := ⟨("is_string", none), "is_string", "is_string", defArgs s_is_string, defBody s_is_string, defScope s_is_string, [], []⟩
def d_is_text : He.DefD := ⟨("is_text", none), "is_text", "is_text", defArgs s_is_text, defBody s_is_text, defScope s_is_text, [], []⟩
def d_is_replacement : He.DefD := ⟨("is_replacement", none), "is_replacement", "is_replacement", defArgs s_is_replacement, defBody s_is_replacement, defScope s_is_replacement, [], []⟩
def d_check_replacement : He.DefD := ⟨("check_replacement", none), "check_replacement", "check_replacement", defArgs s_check_replacement, defBody s_check_replacement, defScope s_check_replacement, [], []⟩
def d_check_text : He.DefD := ⟨("check_text", none), "check_text", "check_text", defArgs s_check_text, defBody s_check_text, defScope s_check_text, [], []⟩
def d_longest_end : He.DefD := ⟨("longest_end", none), "longest_end", "longest_end", defArgs s_longest_end, defBody s_longest_end, defScope s_longest_end, [], []⟩
def d_read_sign : He.DefD := ⟨("read_sign", none), "read_sign", "read_sign", defArgs s_read_sign, defBody s_read_sign, defScope s_read_sign, [], []⟩
def d_spread : He.DefD := ⟨("spread", none), "spread", "spread", defArgs s_spread, defBody s_spread, defScope s_spread, [], []⟩
def d_may_put : He.DefD := ⟨("may_put", none), "may_put", "may_put", defArgs s_may_put, defBody s_may_put, defScope s_may_put, [], []⟩
def d_literal : He.DefD := ⟨("literal", none), "literal", "literal", defArgs s_literal, defBody s_literal, defScope s_literal, [], []⟩
def d_ways_on : He.DefD := ⟨("ways_on", none), "ways_on", "ways_on", defArgs s_ways_on, defBody s_ways_on, defScope s_ways_on, [], []⟩
def d_after_put : He.DefD := ⟨("after_put", none), "after_put", "after_put", defArgs s_after_put, defBody s_after_put, defScope s_after_put, [], []⟩
def d_all_ways : He.DefD := ⟨("all_ways", none), "all_ways", "all_ways", defArgs s_all_ways, defBody s_all_ways, defScope s_all_ways, [], []⟩
def d_start_states : He.DefD := ⟨("start_states", none), "start_states", "start_states", defArgs s_start_states, defBody s_start_states, defScope s_start_states, [], []⟩
def d_is_complete : He.DefD := ⟨("is_complete", none), "is_complete", "is_complete", defArgs s_is_complete, defBody s_is_complete, defScope s_is_complete, [], []⟩
def d_is_reached : He.DefD := ⟨("is_reached", none), "is_reached", "is_reached", defArgs s_is_reached, defBody s_is_reached, defScope s_is_reached, [], []⟩
def d_unreached_text : He.DefD := ⟨("unreached_text", none), "unreached_text", "unreached_text", defArgs s_unreached_text, defBody s_unreached_text, defScope s_unreached_text, [], []⟩
def d_law_done : He.DefD := ⟨("_law_done", none), "_law_done", "_law_done", defArgs s_law_done, defBody s_law_done, defScope s_law_done, [], []⟩
def d_law_pick : He.DefD := ⟨("_law_pick", none), "_law_pick", "_law_pick", defArgs s_law_pick, defBody s_law_pick, defScope s_law_pick, [], []⟩
def d_law_word : He.DefD := ⟨("_law_word", none), "_law_word", "_law_word", defArgs s_law_word, defBody s_law_word, defScope s_law_word, [], []⟩
def d_law_step : He.DefD := ⟨("_law_step", none), "_law_step", "_law_step", defArgs s_law_step, defBody s_law_step, defScope s_law_step, [], []⟩
def d_law_texts : He.DefD := ⟨("_law_texts", none), "_law_texts", "_law_texts", defArgs s_law_texts, defBody s_law_texts, defScope s_law_texts, [], []⟩
def d_law_reaches : He.DefD := ⟨("_law_reaches", none), "_law_reaches", "_law_reaches", defArgs s_law_reaches, defBody s_law_reaches, defScope s_law_reaches, [], []⟩
def d_law : He.DefD := ⟨("law", none), "law", "law", defArgs s_law, defBody s_law, defScope s_law, [], []⟩
def fn : List He.DefD := [d_is_string, d_is_text, d_is_replacement, d_check_replacement, d_check_text, d_longest_end, d_read_sign, d_spread, d_may_put, d_literal, d_ways_on, d_after_put, d_all_ways, d_start_states, d_is_complete, d_is_reached, d_unreached_text, d_law_done, d_law_pick, d_law_word, d_law_step, d_law_texts, d_law_reaches, d_law]
def fa : List He.Fa := [.glo "is_string", .glo "is_text", .glo "is_replacement", .glo "check_replacement", .glo "check_text", .glo "longest_end", .glo "read_sign", .glo "spread", .glo "may_put", .glo "literal", .glo "ways_on", .glo "after_put", .glo "all_ways", .glo "start_states", .glo "is_complete", .glo "is_reached", .glo "unreached_text", .glo "_law_done", .glo "_law_pick", .glo "_law_word", .glo "_law_step", .glo "_law_texts", .glo "_law_reaches", .glo "law", .free "all", .free "any", .free "enumerate", .free "isinstance", .free "len", .free "list", .free "max", .free "min", .free "range", .free "sorted", .free "str", .free "tuple", .int "MAX_TEXT" 40, .int "MAX_WORD" 4, .str "SIGNS" "abc", .glo "ReplaceError", .glo "InvalidReplacement", .glo "InvalidText", .exc "InvalidReplacement", .exc "InvalidText"]
def names0 : List Str := ["ReplaceError", "InvalidReplacement", "InvalidText", "SIGNS", "MAX_TEXT", "MAX_WORD", "is_string", "is_text", "is_replacement", "check_replacement", "check_text", "longest_end", "read_sign", "spread", "may_put", "literal", "ways_on", "after_put", "all_ways", "start_states", "is_complete", "is_reached", "unreached_text", "_law_done", "_law_pick", "_law_word", "_law_step", "_law_texts", "_law_reaches"]
abbrev loose : List Str := names0
abbrev R : PySem.W.OpenRow := PySem.W.OpenLaw.row PySem.Challenge.rw_swapwords_k12_whole_reached
abbrev hk : PySem.W.Hook := hookX 4 fa fn []
def ob (s : PySem.W.SharedT) : He.AlD × Bool := obsX 4 fa fn [] (HandSHeadRun.getT s)
theorem ob_eq (s : PySem.W.SharedT) : ob s = hk.obs s.abs := obsX_eq (HandSHeadRun.getT_eq s)
theorem topRun (w : World) : HandSHeadRun.RunEq R (PySem.W.view R.prog [33]) hk ob 4000 loose w := by
  intro os
  kernel_rfl
theorem facts {P : Program} {w : World} {K : PySem.W.Frag} {h : Heap} {mg : Str → Option Value} {f : Addr} (X : K.In h) (G : h.Ns mainGlobals mg) (hfa : mg ("law" : Str) = some (.ref f)) (c : He.SaysD fa fn K) (xa : ExcAll K []) :
    ∃ fd : FuncData, (∀ (s : Shared) (v : Value), BindsTo s fd ⟨[v], []⟩ [("script", v)]) ∧ ∀ base : Heap, K.In base → base.Ns mainGlobals mg → FnOk P w K mg base CX0 7 f fd ["script"] (spD K F_law) := by
  have Tx : Txt K mg := ⟨⟨(He.exc_ok (c.fact 42 (f := .exc "InvalidReplacement") rfl)).1, He.glo_ok X G (c.fact 40 (f := .glo "InvalidReplacement") rfl), (He.exc_ok (c.fact 42 (f := .exc "InvalidReplacement") rfl)).2.1, (He.exc_ok (c.fact 42 (f := .exc "InvalidReplacement") rfl)).2.2.1, (He.exc_ok (c.fact 42 (f := .exc "InvalidReplacement") rfl)).2.2.2⟩, ⟨(He.exc_ok (c.fact 43 (f := .exc "InvalidText") rfl)).1, He.glo_ok X G (c.fact 41 (f := .glo "InvalidText") rfl), (He.exc_ok (c.fact 43 (f := .exc "InvalidText") rfl)).2.1, (He.exc_ok (c.fact 43 (f := .exc "InvalidText") rfl)).2.2.1, (He.exc_ok (c.fact 43 (f := .exc "InvalidText") rfl)).2.2.2⟩, He.free_ok X G (c.fact 24 (f := .free "all") rfl), He.free_ok X G (c.fact 25 (f := .free "any") rfl), He.free_ok X G (c.fact 26 (f := .free "enumerate") rfl), He.free_ok X G (c.fact 27 (f := .free "isinstance") rfl), He.free_ok X G (c.fact 28 (f := .free "len") rfl), He.free_ok X G (c.fact 29 (f := .free "list") rfl), He.free_ok X G (c.fact 30 (f := .free "max") rfl), He.free_ok X G (c.fact 31 (f := .free "min") rfl), He.free_ok X G (c.fact 32 (f := .free "range") rfl), He.free_ok X G (c.fact 33 (f := .free "sorted") rfl), He.free_ok X G (c.fact 34 (f := .free "str") rfl), He.free_ok X G (c.fact 35 (f := .free "tuple") rfl), He.int_ok X G (c.fact 36 (f := .int "MAX_TEXT" 40) rfl), He.int_ok X G (c.fact 37 (f := .int "MAX_WORD" 4) rfl), (by have h := He.str_ok X G (c.fact 38 (f := .str "SIGNS" "abc") rfl); rwa [show (Str.ofString "abc") = tx [97, 98, 99] by decide +kernel] at h)⟩
  obtain ⟨fd_is_string, Fn_is_string⟩ := c.def_ 0 (d := d_is_string) rfl
  have hm_is_string := He.glo_ok X G (c.fact 0 (f := .glo "is_string") rfl)
  obtain ⟨fd_is_text, Fn_is_text⟩ := c.def_ 1 (d := d_is_text) rfl
  have hm_is_text := He.glo_ok X G (c.fact 1 (f := .glo "is_text") rfl)
  obtain ⟨fd_is_replacement, Fn_is_replacement⟩ := c.def_ 2 (d := d_is_replacement) rfl
  have hm_is_replacement := He.glo_ok X G (c.fact 2 (f := .glo "is_replacement") rfl)
  obtain ⟨fd_check_replacement, Fn_check_replacement⟩ := c.def_ 3 (d := d_check_replacement) rfl
  have hm_check_replacement := He.glo_ok X G (c.fact 3 (f := .glo "check_replacement") rfl)
  obtain ⟨fd_check_text, Fn_check_text⟩ := c.def_ 4 (d := d_check_text) rfl
  have hm_check_text := He.glo_ok X G (c.fact 4 (f := .glo "check_text") rfl)
  obtain ⟨fd_longest_end, Fn_longest_end⟩ := c.def_ 5 (d := d_longest_end) rfl
  have hm_longest_end := He.glo_ok X G (c.fact 5 (f := .glo "longest_end") rfl)
  obtain ⟨fd_read_sign, Fn_read_sign⟩ := c.def_ 6 (d := d_read_sign) rfl
  have hm_read_sign := He.glo_ok X G (c.fact 6 (f := .glo "read_sign") rfl)
  obtain ⟨fd_spread, Fn_spread⟩ := c.def_ 7 (d := d_spread) rfl
  have hm_spread := He.glo_ok X G (c.fact 7 (f := .glo "spread") rfl)
  obtain ⟨fd_may_put, Fn_may_put⟩ := c.def_ 8 (d := d_may_put) rfl
  have hm_may_put := He.glo_ok X G (c.fact 8 (f := .glo "may_put") rfl)
  obtain ⟨fd_literal, Fn_literal⟩ := c.def_ 9 (d := d_literal) rfl
  have hm_literal := He.glo_ok X G (c.fact 9 (f := .glo "literal") rfl)
  obtain ⟨fd_ways_on, Fn_ways_on⟩ := c.def_ 10 (d := d_ways_on) rfl
  have hm_ways_on := He.glo_ok X G (c.fact 10 (f := .glo "ways_on") rfl)
  obtain ⟨fd_after_put, Fn_after_put⟩ := c.def_ 11 (d := d_after_put) rfl
  have hm_after_put := He.glo_ok X G (c.fact 11 (f := .glo "after_put") rfl)
  obtain ⟨fd_all_ways, Fn_all_ways⟩ := c.def_ 12 (d := d_all_ways) rfl
  have hm_all_ways := He.glo_ok X G (c.fact 12 (f := .glo "all_ways") rfl)
  obtain ⟨fd_start_states, Fn_start_states⟩ := c.def_ 13 (d := d_start_states) rfl
  have hm_start_states := He.glo_ok X G (c.fact 13 (f := .glo "start_states") rfl)
  obtain ⟨fd_is_complete, Fn_is_complete⟩ := c.def_ 14 (d := d_is_complete) rfl
  have hm_is_complete := He.glo_ok X G (c.fact 14 (f := .glo "is_complete") rfl)
  obtain ⟨fd_is_reached, Fn_is_reached⟩ := c.def_ 15 (d := d_is_reached) rfl
  have hm_is_reached := He.glo_ok X G (c.fact 15 (f := .glo "is_reached") rfl)
  obtain ⟨fd_unreached_text, Fn_unreached_text⟩ := c.def_ 16 (d := d_unreached_text) rfl
  have hm_unreached_text := He.glo_ok X G (c.fact 16 (f := .glo "unreached_text") rfl)
  obtain ⟨fd_law_done, Fn_law_done⟩ := c.def_ 17 (d := d_law_done) rfl
  have hm_law_done := He.glo_ok X G (c.fact 17 (f := .glo "_law_done") rfl)
  obtain ⟨fd_law_pick, Fn_law_pick⟩ := c.def_ 18 (d := d_law_pick) rfl
  have hm_law_pick := He.glo_ok X G (c.fact 18 (f := .glo "_law_pick") rfl)
  obtain ⟨fd_law_word, Fn_law_word⟩ := c.def_ 19 (d := d_law_word) rfl
  have hm_law_word := He.glo_ok X G (c.fact 19 (f := .glo "_law_word") rfl)
  obtain ⟨fd_law_step, Fn_law_step⟩ := c.def_ 20 (d := d_law_step) rfl
  have hm_law_step := He.glo_ok X G (c.fact 20 (f := .glo "_law_step") rfl)
  obtain ⟨fd_law_texts, Fn_law_texts⟩ := c.def_ 21 (d := d_law_texts) rfl
  have hm_law_texts := He.glo_ok X G (c.fact 21 (f := .glo "_law_texts") rfl)
  obtain ⟨fd_law_reaches, Fn_law_reaches⟩ := c.def_ 22 (d := d_law_reaches) rfl
  have hm_law_reaches := He.glo_ok X G (c.fact 22 (f := .glo "_law_reaches") rfl)
  obtain ⟨fd_law, Fn_law⟩ := c.def_ 23 (d := d_law) rfl
  have hm_law := He.glo_ok X G (c.fact 23 (f := .glo "law") rfl)
  have e := hfa.symm.trans hm_law
  cases e
  refine ⟨fd_law, fun s v => FunD.bindsA (ps := ["script"]) Fn_law (fun _ _ _ _ _ _ us hl => match us, hl with | [_], _ => rfl) s [v] rfl, fun base _ _ => ?_⟩
  have C_is_string : Cal P w K mg base 1 "is_string" ["value", "least", "most"] F_is_string := ok_is_string Tx Fn_is_string hm_is_string
  have C_longest_end : Cal P w K mg base 1 "longest_end" ["text", "word"] F_longest_end := ok_longest_end Tx Fn_longest_end hm_longest_end
  have C_after_put : Cal P w K mg base 1 "after_put" ["new", "end", "size"] F_after_put := ok_after_put Tx Fn_after_put hm_after_put
  have C_is_complete : Cal P w K mg base 1 "is_complete" ["states"] F_is_complete := ok_is_complete Tx Fn_is_complete hm_is_complete
  have C_law_done : Cal P w K mg base 1 "_law_done" ["step", "text"] F_law_done := ok_law_done Tx Fn_law_done hm_law_done
  have C_law_pick : Cal P w K mg base 1 "_law_pick" ["script", "k", "many"] F_law_pick := ok_law_pick Tx Fn_law_pick hm_law_pick
  have C_law_texts : Cal P w K mg base 1 "_law_texts" ["most"] F_law_texts := ok_law_texts Tx Fn_law_texts hm_law_texts
  have C_is_text : Cal P w K mg base 2 "is_text" ["candidate"] F_is_text := ok_is_text Tx C_is_string Fn_is_text hm_is_text
  have C_is_replacement : Cal P w K mg base 2 "is_replacement" ["candidate"] F_is_replacement := ok_is_replacement Tx C_is_string Fn_is_replacement hm_is_replacement
  have C_read_sign : Cal P w K mg base 2 "read_sign" ["replacement", "pending", "sign"] F_read_sign := ok_read_sign Tx C_longest_end Fn_read_sign hm_read_sign
  have C_law_word : Cal P w K mg base 2 "_law_word" ["script", "place", "least", "most"] F_law_word := ok_law_word Tx C_law_pick Fn_law_word hm_law_word
  have C_law_reaches : Cal P w K mg base 2 "_law_reaches" ["step", "text"] F_law_reaches := ok_law_reaches Tx C_law_done Fn_law_reaches hm_law_reaches
  have C_check_replacement : Cal P w K mg base 3 "check_replacement" ["value"] F_check_replacement := ok_check_replacement Tx C_is_replacement Fn_check_replacement hm_check_replacement
  have C_check_text : Cal P w K mg base 3 "check_text" ["value"] F_check_text := ok_check_text Tx C_is_text Fn_check_text hm_check_text
  have C_may_put : Cal P w K mg base 3 "may_put" ["replacement", "end"] F_may_put := ok_may_put Tx C_read_sign Fn_may_put hm_may_put
  have C_literal : Cal P w K mg base 3 "literal" ["replacement", "end", "sign"] F_literal := ok_literal Tx C_read_sign Fn_literal hm_literal
  have C_law_step : Cal P w K mg base 3 "_law_step" ["script", "place"] F_law_step := ok_law_step Tx C_law_pick C_law_word Fn_law_step hm_law_step
  have C_spread : Cal P w K mg base 4 "spread" ["replacement", "ends"] F_spread := ok_spread Tx C_may_put Fn_spread hm_spread
  have C_ways_on : Cal P w K mg base 4 "ways_on" ["replacement", "state", "sign"] F_ways_on := ok_ways_on Tx C_may_put C_after_put C_literal Fn_ways_on hm_ways_on
  have C_all_ways : Cal P w K mg base 5 "all_ways" ["replacement", "states", "sign"] F_all_ways := ok_all_ways Tx C_spread C_ways_on Fn_all_ways hm_all_ways
  have C_start_states : Cal P w K mg base 5 "start_states" ["replacement"] F_start_states := ok_start_states Tx C_spread Fn_start_states hm_start_states
  have C_is_reached : Cal P w K mg base 6 "is_reached" ["replacement", "text"] F_is_reached := ok_is_reached Tx C_is_complete C_all_ways C_start_states C_check_text C_check_replacement Fn_is_reached hm_is_reached
  have C_unreached_text : Cal P w K mg base 6 "unreached_text" ["replacement"] F_unreached_text := ok_unreached_text Tx C_all_ways C_is_complete C_start_states C_check_replacement Fn_unreached_text hm_unreached_text
  exact fo_law Tx C_unreached_text C_is_reached C_law_word C_is_text C_law_reaches C_law_texts C_law_pick C_law_step Fn_law
end Sw
open PySem PySem.W PySem.Calls PyProof.Rows
theorem PySem.Challenge.cw_swapwords_k12_whole_reached_holds : PySem.Challenge.rw_swapwords_k12_whole_reached.Holds := by
  w_on; o_law
  refine HandSHeadRun.head_any (r := OpenLaw.row PySem.Challenge.rw_swapwords_k12_whole_reached) (q := view (OpenLaw.row PySem.Challenge.rw_swapwords_k12_whole_reached).prog [33]) (H := Sw.hk) (ob := Sw.ob) (M := 4000) (loose := Sw.loose) (d := HandSHeadRun.topDef (OpenLaw.row PySem.Challenge.rw_swapwords_k12_whole_reached).prog 33) (kwd := []) Sw.ob_eq
    (by kernel_rfl) (fun s => by kernel_rfl) Sw.topRun (by kernel_rfl) (by kernel_rfl) (by kernel_rfl) (by rfl) (by first | assumption | decide +kernel) (by decide +kernel) ⟨rfl, rfl, rfl, rfl, rfl, by decide +kernel⟩ ?hw ?hc
  case hw => w_witness2
  case hc =>
    refine L2.walk_ofE (l := PySem.Challenge.rw_swapwords_k12_whole_reached) (n := 63) (k := 7) (x := "script") (CX := L2.CX0) rfl (by decide) (by kernel_rfl) ⟨rfl, by decide, by decide⟩ ?F (fun _ _ _ _ z => z)
    intro w mg fa h Y G hmg0
    obtain ⟨K, KX, c, xa⟩ := Y
    have hmg : mg ("law" : PySem.Str) = some (.ref fa) := by
      have e : (HandSHeadRun.topDef (OpenLaw.row PySem.Challenge.rw_swapwords_k12_whole_reached).prog 33).name = ("law" : PySem.Str) := by kernel_rfl
      rw [← e]
      exact hmg0
    obtain ⟨fd, hb, hF⟩ := Sw.facts (P := (PySem.Challenge.rw_swapwords_k12_whole_reached).prog) (w := w) KX G hmg c xa
    exact ⟨K, fd, Sw.spD K Sw.F_law, KX, hb, fun H a ns hl _ hS => ⟨H, [Sw.scrD ns], _, L2.Same.refl H, .cons (.scr hS) .nil, ⟨ns, rfl, hl, rfl⟩, fun v B' H' s w => (by cases w; rfl), fun c _ _ z => by cases z⟩, hF⟩
