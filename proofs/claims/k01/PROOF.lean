import PyProof.Rows.All
import Wide.All
import OpenK.AllK
import Wide.FinOn
import HandS.ForMost
import HandS.ForExc
import HandS.IsInst
import HandS.DictComp
import HandS.TupAny
import HandS.Zip
import HandS.Conv
import HandS.Star
import HandS.More
import HandS.Wide
import HandS.Lambda
import HandS.EndTab
import HandS.TryMany
import HandS.ExcInit
import HandS.ExcField
import HandS.Codes
import HandS.Evl
import HandS.Style
import HandS.TupSets
import HandS.SetFor
import HandS.Strs
import HandS.DictTup
import HandS.TupLen
import HandS.SortRule
import HandS.SortInts
import PyProof.ReprRoads
import HandS.Walk
import HandS.Deep
import KE.DataMinMax
import KE.DatumOrd
import KE.GoesMore
import KE.KRevSl
import KE.KSortTupAny
import PyProof.ReprBulk
import KE.KDflt
import HandS.Nested
import HandS.NestedK
import HandS.ExcIs
import PySem.Challenge.RW_shortbars_k01_whole_orders_and_lots

section
set_option Elab.async false
set_option linter.all false
set_option maxRecDepth 100000
set_option maxHeartbeats 0
/-! SbHead: what the top leaves. -/
open PySem PySem.W PyProof.Rows
open_top PySem.Challenge.sb_head for PySem.Challenge.rw_shortbars_k01_whole_orders_and_lots
end

section
set_option Elab.async false
set_option linter.all false
set_option maxRecDepth 100000
set_option maxHeartbeats 2000000
/-! SbData: data in the abstract heap (with empty dicts), what stays of it, what evaluates to data. -/
namespace SB
open PySem L2 Evl

/-- no address is barred -/
abbrev No : Addr → Prop := fun _ => False

mutual
inductive Dt (K : PySem.W.Frag) (B : Addr → Prop) (H : Hp) : V → PyData → Prop
  | non : Dt K B H .non .none
  | bl (b : Bool) : Dt K B H (.bl b) (.bool b)
  | int (i : Int) : Dt K B H (.int i) (.int i)
  | str (x : Str) : Dt K B H (.str x) (.str x)
  | lst {a : Addr} {xs : List V} {ds : List PyData} : H a = some (.lst xs) → ¬ B a → DtAll K B H xs ds → Dt K B H (.ref a) (.list ds)
  | tup {a : Addr} {xs : List V} {ds : List PyData} : SqT K H a xs → DtAll K B H xs ds → Dt K B H (.ref a) (.tuple ds)
  | emp {a : Addr} : H a = some (.dK []) → Dt K B H (.ref a) (.dict [])
inductive DtAll (K : PySem.W.Frag) (B : Addr → Prop) (H : Hp) : List V → List PyData → Prop
  | nil : DtAll K B H [] []
  | cons {v : V} {vs : List V} {d : PyData} {ds : List PyData} : Dt K B H v d → DtAll K B H vs ds → DtAll K B H (v :: vs) (d :: ds)
end

/-- what stays when only barred objects change -/
structure Kp (B : Addr → Prop) (H H' : Hp) : Prop where
  k : ∀ b o, ¬ B b → H b = some o → H' b = some o
  t : ∀ b xs, H b = some (.tup xs) → H' b = some (.tup xs)
  e : ∀ b, H b = some (.dK []) → H' b = some (.dK [])
  z : ∀ b o u, H b = some (.frz o u) → H' b = some (.frz o u)
theorem Kp.of {B : Addr → Prop} {H H' : Hp} (x : Ex H H') : Kp B H H' := ⟨fun b o _ h => x b o h, fun b _ h => x b _ h, fun b h => x b _ h, fun b _ _ h => x b _ h⟩
theorem Kp.refl {B : Addr → Prop} (H : Hp) : Kp B H H := Kp.of (Ex.refl H)
theorem Kp.trans {B : Addr → Prop} {H H1 H2 : Hp} (a : Kp B H H1) (b : Kp B H1 H2) : Kp B H H2 :=
  ⟨fun c o n h => b.k c o n (a.k c o n h), fun c xs h => b.t c xs (a.t c xs h), fun c h => b.e c (a.e c h), fun c o u h => b.z c o u (a.z c o u h)⟩
theorem Kp.no {H H' : Hp} (a : Kp No H H') : Ex H H' := fun b o h => a.k b o (fun z => z) h
theorem Kp.l {K : PySem.W.Frag} {B : Addr → Prop} {H H' : Hp} {a : Addr} {xs : List V} (x : Kp B H H') (n : ¬ B a) (h : SqL K H a xs) : SqL K H' a xs := by
  rcases h with (h | ⟨o, h⟩) | h
  · exact .inl (.inl (x.k _ _ n h))
  · exact .inl (.inr ⟨o, x.z _ _ _ h⟩)
  · exact .inr h
theorem Kp.s {K : PySem.W.Frag} {B : Addr → Prop} {H H' : Hp} {a : Addr} {xs : List V} (x : Kp B H H') (h : SqT K H a xs) : SqT K H' a xs := by
  rcases h with (h | ⟨o, h⟩) | h
  · exact .inl (.inl (x.t _ _ h))
  · exact .inl (.inr ⟨o, x.z _ _ _ h⟩)
  · exact .inr h

/-- no list within -/
def noL : PyData → Bool
  | .none | .bool _ | .int _ | .str _ => true
  | .list _ => false
  | .tuple xs => noLs xs
  | .dict kvs => kvs.isEmpty
where noLs : List PyData → Bool
  | [] => true
  | x :: xs => noL x && noLs xs

section
variable {K : PySem.W.Frag} {B B' : Addr → Prop} {H H' : Hp}
mutual
theorem Dt.kp (x : Kp B H H') : ∀ (d : PyData) (v : V), Dt K B H v d → Dt K B H' v d
  | .none, _, h => by
    cases h
    exact .non
  | .bool b, _, h => by
    cases h
    exact .bl b
  | .int i, _, h => by
    cases h
    exact .int i
  | .str s, _, h => by
    cases h
    exact .str s
  | .list ds, _, h => by
    cases h with
    | lst h1 h2 h3 => exact .lst (x.k _ _ h2 h1) h2 (DtAll.kp x ds _ h3)
  | .tuple ds, _, h => by
    cases h with
    | tup h1 h3 => exact .tup (x.s h1) (DtAll.kp x ds _ h3)
  | .dict _, _, h => by
    cases h with
    | emp h => exact .emp (x.e _ h)
theorem DtAll.kp (x : Kp B H H') : ∀ (ds : List PyData) (vs : List V), DtAll K B H vs ds → DtAll K B H' vs ds
  | [], _, h => by
    cases h
    exact .nil
  | d :: ds, _, h => by
    cases h with
    | cons h1 h2 => exact .cons (Dt.kp x d _ h1) (DtAll.kp x ds _ h2)
end
theorem Dt.ke {d : PyData} {v : V} (h : Dt K B H v d) (x : Kp B H H') : Dt K B H' v d := Dt.kp x d v h
theorem Dt.ex {d : PyData} {v : V} (h : Dt K B H v d) (x : Ex H H') : Dt K B H' v d := Dt.kp (Kp.of x) d v h
theorem DtAll.ke {ds : List PyData} {vs : List V} (h : DtAll K B H vs ds) (x : Kp B H H') : DtAll K B H' vs ds := DtAll.kp x ds vs h
theorem DtAll.ex {ds : List PyData} {vs : List V} (h : DtAll K B H vs ds) (x : Ex H H') : DtAll K B H' vs ds := DtAll.kp (Kp.of x) ds vs h
mutual
theorem Dt.wk (x : ∀ a, B' a → B a) : ∀ (d : PyData) (v : V), Dt K B H v d → Dt K B' H v d
  | .none, _, h => by
    cases h
    exact .non
  | .bool b, _, h => by
    cases h
    exact .bl b
  | .int i, _, h => by
    cases h
    exact .int i
  | .str s, _, h => by
    cases h
    exact .str s
  | .list ds, _, h => by
    cases h with
    | lst h1 h2 h3 => exact .lst h1 (fun z => h2 (x _ z)) (DtAll.wk x ds _ h3)
  | .tuple ds, _, h => by
    cases h with
    | tup h1 h3 => exact .tup h1 (DtAll.wk x ds _ h3)
  | .dict _, _, h => by
    cases h with
    | emp h => exact .emp h
theorem DtAll.wk (x : ∀ a, B' a → B a) : ∀ (ds : List PyData) (vs : List V), DtAll K B H vs ds → DtAll K B' H vs ds
  | [], _, h => by
    cases h
    exact .nil
  | d :: ds, _, h => by
    cases h with
    | cons h1 h2 => exact .cons (Dt.wk x d _ h1) (DtAll.wk x ds _ h2)
end
theorem Dt.no {d : PyData} {v : V} (h : Dt K B H v d) : Dt K No H v d := Dt.wk (fun _ z => z.elim) d v h
theorem DtAll.no {ds : List PyData} {vs : List V} (h : DtAll K B H vs ds) : DtAll K No H vs ds := DtAll.wk (fun _ z => z.elim) ds vs h
mutual
theorem Dt.nl : ∀ (d : PyData) (v : V), noL d = true → Dt K B H v d → Dt K B' H v d
  | .none, _, _, h => by
    cases h
    exact .non
  | .bool b, _, _, h => by
    cases h
    exact .bl b
  | .int i, _, _, h => by
    cases h
    exact .int i
  | .str s, _, _, h => by
    cases h
    exact .str s
  | .list ds, _, n, h => by
    cases n
  | .tuple ds, _, n, h => by
    cases h with
    | tup h1 h3 => exact .tup h1 (DtAll.nl ds _ n h3)
  | .dict _, _, _, h => by
    cases h with
    | emp h => exact .emp h
theorem DtAll.nl : ∀ (ds : List PyData) (vs : List V), noL.noLs ds = true → DtAll K B H vs ds → DtAll K B' H vs ds
  | [], _, _, h => by
    cases h
    exact .nil
  | d :: ds, _, n, h => by
    have n2 : noL d = true ∧ noL.noLs ds = true := Bool.and_eq_true_iff.mp n
    cases h with
    | cons h1 h2 => exact .cons (Dt.nl d _ n2.1 h1) (DtAll.nl ds _ n2.2 h2)
end
mutual
/-- what is known of a heap holds no address that the heap does not know -/
theorem Dt.olds {D : Addr} (hD : H D = none) : ∀ (d : PyData) (v : V), Dt K No H v d → Dt K (fun b => b = D) H v d
  | .none, _, h => by
    cases h
    exact .non
  | .bool b, _, h => by
    cases h
    exact .bl b
  | .int i, _, h => by
    cases h
    exact .int i
  | .str s, _, h => by
    cases h
    exact .str s
  | .list ds, _, h => by
    cases h with
    | lst h1 h2 h3 =>
      refine .lst h1 (fun z => ?_) (DtAll.olds hD ds _ h3)
      subst z
      rw [hD] at h1
      cases h1
  | .tuple ds, _, h => by
    cases h with
    | tup h1 h3 => exact .tup h1 (DtAll.olds hD ds _ h3)
  | .dict _, _, h => by
    cases h with
    | emp h => exact .emp h
theorem DtAll.olds {D : Addr} (hD : H D = none) : ∀ (ds : List PyData) (vs : List V), DtAll K No H vs ds → DtAll K (fun b => b = D) H vs ds
  | [], _, h => by
    cases h
    exact .nil
  | d :: ds, _, h => by
    cases h with
    | cons h1 h2 => exact .cons (Dt.olds hD d _ h1) (DtAll.olds hD ds _ h2)
end
theorem Dt.old {D : Addr} {d : PyData} {v : V} (h : Dt K No H v d) (hD : H D = none) : Dt K (fun b => b = D) H v d := Dt.olds hD d v h
theorem Dt.any {d : PyData} {v : V} (h : Dt K B H v d) (n : noL d = true := by rfl) : Dt K B' H v d := Dt.nl d v n h
theorem DtAll.any {ds : List PyData} {vs : List V} (h : DtAll K B H vs ds) (n : noL.noLs ds = true := by rfl) : DtAll K B' H vs ds := DtAll.nl ds vs n h
/- without dicts it is the own relation of the layer -/
mutual
theorem Dt.dp : ∀ (d : PyData) (v : V), d.hasDict = false → Dt K B H v d → Dp K H v d
  | .none, _, _, h => by
    cases h
    exact .non
  | .bool b, _, _, h => by
    cases h
    exact .bl b
  | .int i, _, _, h => by
    cases h
    exact .int i
  | .str s, _, _, h => by
    cases h
    exact .str s
  | .list ds, _, n, h => by
    have n : PyData.hasDictAll ds = false := by simpa only [PyData.hasDict] using n
    cases h with
    | lst h1 h2 h3 => exact .lst (SqL.of h1) (DtAll.dp ds _ n h3)
  | .tuple ds, _, n, h => by
    have n : PyData.hasDictAll ds = false := by simpa only [PyData.hasDict] using n
    cases h with
    | tup h1 h3 => exact .tup h1 (DtAll.dp ds _ n h3)
  | .dict _, _, n, h => by
    simp only [PyData.hasDict] at n
    cases n
theorem DtAll.dp : ∀ (ds : List PyData) (vs : List V), PyData.hasDictAll ds = false → DtAll K B H vs ds → DpAll K H vs ds
  | [], _, _, h => by
    cases h
    exact .nil
  | d :: ds, _, n, h => by
    have n2 : d.hasDict = false ∧ PyData.hasDictAll ds = false := by
      simp only [PyData.hasDictAll, Bool.or_eq_false_iff] at n
      exact n
    cases h with
    | cons h1 h2 => exact .cons (Dt.dp d _ n2.1 h1) (DtAll.dp ds _ n2.2 h2)
end

/-! ### lists of data -/
theorem DtAll.len : ∀ {vs : List V} {ds : List PyData}, DtAll K B H vs ds → vs.length = ds.length
  | _, _, .nil => rfl
  | _, _, .cons _ h => by rw [List.length_cons, List.length_cons, DtAll.len h]
theorem DtAll.get : ∀ {vs : List V} {ds : List PyData} {i : Nat} {v : V}, DtAll K B H vs ds → vs[i]? = some v → ∃ d, ds[i]? = some d ∧ Dt K B H v d
  | _, _, _, _, .nil, e => by simp at e
  | _, _, 0, _, .cons h _, e => ⟨_, rfl, by
    have e' := Option.some.inj e
    rw [← e']
    exact h⟩
  | _, _, i + 1, v, .cons _ h, e => DtAll.get (i := i) h e
theorem DtAll.at : ∀ {vs : List V} {ds : List PyData} {i : Nat} {d : PyData}, DtAll K B H vs ds → ds[i]? = some d → ∃ v, vs[i]? = some v ∧ Dt K B H v d
  | _, _, _, _, .nil, e => by simp at e
  | _, _, 0, _, .cons h _, e => ⟨_, rfl, by
    have e' := Option.some.inj e
    rw [← e']
    exact h⟩
  | _, _, i + 1, v, .cons _ h, e => DtAll.at (i := i) h e
theorem DtAll.app : ∀ {vs ws : List V} {ds es : List PyData}, DtAll K B H vs ds → DtAll K B H ws es → DtAll K B H (vs ++ ws) (ds ++ es)
  | _, _, _, _, .nil, h => h
  | _, _, _, _, .cons a h, h' => .cons a (DtAll.app h h')
theorem DtAll.take : ∀ {vs : List V} {ds : List PyData} (n : Nat), DtAll K B H vs ds → DtAll K B H (vs.take n) (ds.take n)
  | _, _, 0, _ => .nil
  | _, _, _ + 1, .nil => .nil
  | _, _, n + 1, .cons a h => .cons a (DtAll.take n h)
theorem DtAll.drop : ∀ {vs : List V} {ds : List PyData} (n : Nat), DtAll K B H vs ds → DtAll K B H (vs.drop n) (ds.drop n)
  | _, _, 0, h => h
  | _, _, _ + 1, .nil => .nil
  | _, _, n + 1, .cons _ h => DtAll.drop n h
theorem DtAll.rev : ∀ {vs : List V} {ds : List PyData}, DtAll K B H vs ds → DtAll K B H vs.reverse ds.reverse
  | _, _, .nil => .nil
  | _, _, .cons a h => by
    rw [List.reverse_cons, List.reverse_cons]
    exact (DtAll.rev h).app (.cons a .nil)
theorem DtAll.set {v : V} {d : PyData} (q : Dt K B H v d) : ∀ {vs : List V} {ds : List PyData} (i : Nat), DtAll K B H vs ds → DtAll K B H (vs.set i v) (ds.set i d)
  | _, _, _, .nil => .nil
  | _, _, 0, .cons _ h => .cons q h
  | _, _, i + 1, .cons a h => .cons a (DtAll.set q i h)
theorem DtAll.cut {vs : List V} {ds : List PyData} (h : DtAll K B H vs ds) (lo hi : Option Int) : DtAll K B H (cutV vs lo hi) ((ds.drop (HT.sIx ds.length 0 lo)).take (HT.sIx ds.length ds.length hi - HT.sIx ds.length 0 lo)) := by
  unfold cutV
  rw [h.len]
  exact (h.drop _).take _
theorem DtAll.ints : ∀ (ns : List Int), DtAll K B H (ns.map V.int) (ns.map PyData.int)
  | [] => .nil
  | n :: ns => .cons (.int n) (DtAll.ints ns)
theorem DtAll.toInts : ∀ {ns : List Int} {vs : List V}, DtAll K B H vs (ns.map PyData.int) → vs = ns.map V.int
  | [], _, h => by
    cases h
    rfl
  | n :: ns, _, h => by
    cases h with
    | cons a h =>
      cases a
      rw [DtAll.toInts h]
      rfl
theorem DtAll.bls : ∀ (ns : List Bool), DtAll K B H (ns.map V.bl) (ns.map PyData.bool)
  | [] => .nil
  | n :: ns => .cons (.bl n) (DtAll.bls ns)
theorem DtAll.toBls : ∀ {ns : List Bool} {vs : List V}, DtAll K B H vs (ns.map PyData.bool) → vs = ns.map V.bl
  | [], _, h => by
    cases h
    rfl
  | n :: ns, _, h => by
    cases h with
    | cons a h =>
      cases a
      rw [DtAll.toBls h]
      rfl
/-- from the places -/
theorem DtAll.of : ∀ {vs : List V} {ds : List PyData}, vs.length = ds.length → (∀ (i : Nat) v d, vs[i]? = some v → ds[i]? = some d → Dt K B H v d) → DtAll K B H vs ds
  | [], [], _, _ => .nil
  | v :: vs, d :: ds, e, h => .cons (h 0 v d rfl rfl) (DtAll.of (Nat.succ.inj e) fun i v' d' e1 e2 => h (i + 1) v' d' e1 e2)
/-! ### what data stands at a value -/
theorem Dt.toInt {v : V} {i : Int} (h : Dt K B H v (.int i)) : v = .int i := by
  cases h
  rfl
theorem Dt.toBl {v : V} {b : Bool} (h : Dt K B H v (.bool b)) : v = .bl b := by
  cases h
  rfl
theorem Dt.toStr {v : V} {x : Str} (h : Dt K B H v (.str x)) : v = .str x := by
  cases h
  rfl
theorem Dt.toNon {v : V} (h : Dt K B H v .none) : v = .non := by
  cases h
  rfl
theorem Dt.toTup {v : V} {ds : List PyData} (h : Dt K B H v (.tuple ds)) : ∃ a xs, v = .ref a ∧ SqT K H a xs ∧ DtAll K B H xs ds := by
  cases h with
  | tup h1 h2 => exact ⟨_, _, rfl, h1, h2⟩
theorem Dt.toLst {v : V} {ds : List PyData} (h : Dt K B H v (.list ds)) : ∃ a xs, v = .ref a ∧ SqL K H a xs ∧ ¬ B a ∧ DtAll K B H xs ds := by
  cases h with
  | lst h1 h2 h3 => exact ⟨_, _, rfl, SqL.of h1, h2, h3⟩
theorem Dt.toLm {v : V} {ds : List PyData} (h : Dt K B H v (.list ds)) : ∃ a xs, v = .ref a ∧ H a = some (.lst xs) ∧ ¬ B a ∧ DtAll K B H xs ds := by
  cases h with
  | lst h1 h2 h3 => exact ⟨_, _, rfl, h1, h2, h3⟩
/-- the builtin type of data -/
def tyD : PyData → String
  | .none => "NoneType"
  | .bool _ => "bool"
  | .int _ => "int"
  | .str _ => "str"
  | .list _ => "list"
  | .tuple _ => "tuple"
  | .dict _ => "dict"
theorem Dt.ty {v : V} {d : PyData} (h : Dt K B H v d) : TyX K H v (.type (tyD d)) := by
  cases h with
  | non => exact .base .non
  | bl b => exact .base (.bl b)
  | int i => exact .base (.int i)
  | str x => exact .base (.str x)
  | lst h1 h2 h3 => exact .base (.lst h1)
  | tup h1 h3 =>
    rcases h1 with (h | ⟨o, h⟩) | ⟨o, its, n, h, hc, _⟩
    · exact .base (.tup h)
    · exact .fTuple h
    · exact .kTuple h hc
  | emp h => exact .base (.dK h)
end

/-! ### data is read by the machine -/
section
variable {X : Cx} {pins : List (Addr × Obj)} {σ : L2.St} {H : Hp} {s : Shared} {B : Addr → Prop}
mutual
theorem Dt.reads (I : Inv X pins σ H s) : ∀ (d : PyData) (v : V) (u : Value), Dt X.K B H v d → RelV v u → ∃ as, Reads s.heap u d as ∧ (noL d = true → sysModules ∉ as)
  | .none, _, _, h, r => by
    cases h
    cases r
    exact ⟨_, Reads.none, fun _ => List.not_mem_nil⟩
  | .bool b, _, _, h, r => by
    cases h
    cases r
    exact ⟨_, Reads.bool b, fun _ => List.not_mem_nil⟩
  | .int i, _, _, h, r => by
    cases h
    obtain ⟨t, rfl⟩ := r
    exact ⟨_, Reads.int i t, fun _ => List.not_mem_nil⟩
  | .str x, _, _, h, r => by
    cases h
    obtain ⟨t, rfl⟩ := r
    exact ⟨_, Reads.str x t, fun _ => List.not_mem_nil⟩
  | .list ds, _, _, h, r => by
    cases h with
    | lst h1 h2 h3 =>
      cases r
      obtain ⟨its, rv, ⟨o, n, ho, hc, _, hd⟩, _⟩ := I.list (SqL.of h1)
      obtain ⟨as, hr, _⟩ := DtAll.reads I ds _ its h3 rv
      exact ⟨_, Reads.list ho hc hd hr, fun z => by cases z⟩
  | .tuple ds, _, _, h, r => by
    cases h with
    | tup h1 h3 =>
      cases r
      obtain ⟨its, rv, ⟨o, ho, hc, n, hd⟩, _⟩ := I.tuple h1
      obtain ⟨as, hr, hn⟩ := DtAll.reads I ds _ its h3 rv
      exact ⟨_, Reads.tuple ho hc hd hr, hn⟩
  | .dict _, _, _, h, r => by
    cases h with
    | emp h =>
      cases r
      obtain ⟨_, hs, vs, kv, o, es, ep, e, hx, hd, _, hes, _⟩ := (show ObjOk X.prog X.w H s.heap _ (.dK []) from I.hok _ _ h)
      cases kv
      have he : es.toList = [] := by
        have z := hes.length
        simpa using z
      refine ⟨_, Reads.dict e hx.1 hd (kvs := []) (as := []) (bs := []) (by rw [he]; exact .nil) (by rw [he]; exact .nil), fun _ z => ?_⟩
      have z' := List.mem_cons.mp z
      rcases z' with z' | z'
      · rw [← z'] at hs
        exact absurd hs (by simp)
      · simp at z'
theorem DtAll.reads (I : Inv X pins σ H s) : ∀ (ds : List PyData) (vs : List V) (us : List Value), DtAll X.K B H vs ds → Vals vs us → ∃ as, ReadsAll s.heap us ds as ∧ (noL.noLs ds = true → sysModules ∉ as)
  | [], _, _, h, r => by
    cases h
    cases r
    exact ⟨_, ReadsAll.nil, fun _ => List.not_mem_nil⟩
  | d :: ds, _, _, h, r => by
    cases h with
    | cons h1 h2 =>
      cases r with
      | cons r1 r2 =>
        obtain ⟨as, q1, n1⟩ := Dt.reads I d _ _ h1 r1
        obtain ⟨bs, q2, n2⟩ := DtAll.reads I ds _ _ h2 r2
        refine ⟨_, ReadsAll.cons q1 q2, fun z => ?_⟩
        have n : noL d = true ∧ noL.noLs ds = true := Bool.and_eq_true_iff.mp z
        intro w
        rcases List.mem_append.mp w with w | w
        · exact n1 n.1 w
        · exact n2 n.2 w
end
end
end SB
end

section
set_option Elab.async false
set_option linter.all false
set_option maxRecDepth 100000
set_option maxHeartbeats 2000000
/-! SbTx: the text by places, and what the top leaves. -/
namespace SB
open PySem PySem.Spec PyProof.Rows L2 Evl
set_option autoImplicit false
def topS (i : Nat) : Stmt := PySem.Challenge.pw_shortbars_k01_whole_orders_and_lots.main.body.getD i (.Pass ⟨0, 0, 0, 0⟩)

/-- a def of the text under its name, no defaults -/
structure DF (K : PySem.W.Frag) (mg : Str → Option Value) (x : Str) (st : Stmt) (ps : List Str) : Prop where
  ex : ∃ (f : Addr) (fd : FuncData), C8.Def K mg x st f fd ∧ Binds K fd ps []
/-- a tuple of the written part -/
def KTup (K : PySem.W.Frag) (a : Addr) (xs : List V) : Prop :=
  ∃ (o : Obj) (its : Array Value) (n : Nat), K.lookup a = some o ∧ o.cls = .type "tuple" ∧ o.data = .seq its n ∧ its.size ≤ sizeLine ∧ Vals xs its.toList
theorem KTup.t {K : PySem.W.Frag} {a : Addr} {xs : List V} {H : Hp} (h : KTup K a xs) : SqT K H a xs := .inr h
/-- addresses that the top has chosen -/
structure Ad where
  (giv ask num wd : Addr)
  (cH cL cT fH fL fT : Addr)
def GInt (mg : Str → Option Value) (x : Str) (i : Int) : Prop := ∃ t, mg x = some (.int i t)
def GStr (mg : Str → Option Value) (x : Str) (z : Str) : Prop := ∃ t, mg x = some (.str z t)
/-- what WORDS says of a sort's name -/
def Wd (K : PySem.W.Frag) (wd : Addr) (x : Str) (ws : List Str) : Prop := ∃ a, PySem.W.nsIn K wd x = some (some (.ref a)) ∧ KTup K a (ws.map V.str)
/-- an own error class with a field given -/
structure Er (K : PySem.W.Frag) (mg : Str → Option Value) (x : Str) (C f : Addr) (st : Stmt) : Prop where
  gC : mg x = some (.ref C)
  oex : OexC K C
  iC : PySem.W.findIn K (.ref C) "__init__" = some (some (.ref f))
  tI : PySem.W.typeIn K (.ref f) = some (.type "function")
  xf : XfC K C
  no : PySem.W.findIn K (.ref C) "given" = some none
  fn : ∃ fd : FuncData, C8.Fun K "__init__" (x ++ ".__init__") st f fd ∧ Binds K fd ["self", "given"] []
  kC : PySem.W.keepIn K (.ref C) = true
structure Tx (A : Ad) (K : PySem.W.Frag) (w : World) (mg : Str → Option Value) : Prop where
  d_is_integer : DF K mg "is_integer" (topS 15) ["thing"]
  d_is_value : DF K mg "is_value" (topS 16) ["thing"]
  d_is_sort : DF K mg "is_sort" (topS 17) ["thing"]
  d_words_of : DF K mg "words_of" (topS 18) ["sort"]
  d_is_word_of : DF K mg "is_word_of" (topS 19) ["sort", "word"]
  d_can_give : DF K mg "can_give" (topS 20) ["word", "given"]
  d_can_tell : DF K mg "can_tell" (topS 21) ["word", "told"]
  d_is_doing : DF K mg "is_doing" (topS 22) ["sorts", "doing"]
  d_is_call : DF K mg "is_call" (topS 23) ["sorts", "thing"]
  d_are_sorts : DF K mg "are_sorts" (topS 24) ["thing"]
  d_are_unlike : DF K mg "are_unlike" (topS 25) ["some"]
  d_givers_of : DF K mg "givers_of" (topS 26) ["doings"]
  d_are_calls : DF K mg "are_calls" (topS 27) ["sorts", "thing"]
  d_are_in_time : DF K mg "are_in_time" (topS 28) ["calls"]
  d_fault_of : DF K mg "fault_of" (topS 29) ["thing"]
  d_need_history : DF K mg "need_history" (topS 30) ["thing"]
  d_need_thing : DF K mg "need_thing" (topS 31) ["history", "thing"]
  d_is_before : DF K mg "is_before" (topS 32) ["calls", "number", "far"]
  d_all_ahead : DF K mg "all_ahead" (topS 33) ["calls"]
  d_are_numbers : DF K mg "are_numbers" (topS 34) ["thing", "many"]
  d_is_order_in : DF K mg "is_order_in" (topS 35) ["calls", "value"]
  d_is_order : DF K mg "is_order" (topS 36) ["history", "value"]
  d_need_lot : DF K mg "need_lot" (topS 37) ["history", "lot"]
  d_with_numbers : DF K mg "with_numbers" (topS 38) ["history", "lot"]
  d_calls_of_lot : DF K mg "calls_of_lot" (topS 39) ["history", "lot"]
  d_part_in : DF K mg "part_in" (topS 40) ["history", "thing"]
  d_history_of_thing : DF K mg "history_of_thing" (topS 41) ["history", "thing"]
  d__law_mixed : DF K mg "_law_mixed" (topS 43) ["_law_cell", "_law_k"]
  d__law_begin : DF K mg "_law_begin" (topS 44) ["_law_script"]
  d__law_draw : DF K mg "_law_draw" (topS 45) ["_law_state", "_law_many"]
  d__law_of : DF K mg "_law_of" (topS 46) ["_law_state", "_law_some"]
  d__law_store : DF K mg "_law_store" (topS 47) ["_law_sort"]
  d__law_taken : DF K mg "_law_taken" (topS 48) ["_law_sort", "_law_store_here"]
  d__law_do : DF K mg "_law_do" (topS 49) ["_law_sort", "_law_store_here", "_law_word_here", "_law_given"]
  d__law_value : DF K mg "_law_value" (topS 50) ["_law_state", "_law_used"]
  d__law_word : DF K mg "_law_word" (topS 51) ["_law_state", "_law_sort", "_law_store_here", "_law_used"]
  d__law_row : DF K mg "_law_row" (topS 52) ["_law_state", "_law_sorts_here", "_law_many"]
  d__law_history : DF K mg "_law_history" (topS 53) ["_law_state", "_law_sorts_here", "_law_many"]
  d__law_other : DF K mg "_law_other" (topS 54) ["_law_state", "_law_call"]
  d__law_bent : DF K mg "_law_bent" (topS 55) ["_law_state", "_law_history_here"]
  d__law_is_whole : DF K mg "_law_is_whole" (topS 56) ["_law_thing", "_law_least", "_law_most"]
  d__law_sorts : DF K mg "_law_sorts" (topS 57) ["_law_state", "_law_many"]
  d__law_drawn : DF K mg "_law_drawn" (topS 58) ["_law_state", "_law_many", "_law_most"]
  d__law_any_order : DF K mg "_law_any_order" (topS 59) ["_law_state", "_law_calls_so"]
  d__law_is_order : DF K mg "_law_is_order" (topS 60) ["_law_calls_so", "_law_thing"]
  d__law_twisted : DF K mg "_law_twisted" (topS 61) ["_law_state", "_law_thing"]
  d__law_heard : DF K mg "_law_heard" (topS 62) ["_law_call"]
  d__law_orders_good : DF K mg "_law_orders_good" (topS 63) ["_law_state", "_law_history_here"]
  d__law_numbers_good : DF K mg "_law_numbers_good" (topS 64) ["_law_state", "_law_history_here"]
  d__law_is_lot : DF K mg "_law_is_lot" (topS 65) ["_law_many", "_law_thing"]
  d__law_lots_good : DF K mg "_law_lots_good" (topS 66) ["_law_state", "_law_history_here"]
  d__law_things_good : DF K mg "_law_things_good" (topS 67) ["_law_history_here"]
  d_law : DF K mg "law" (topS 68) ["_law_script"]
  len : mg "len" = none
  range : mg "range" = none
  isinstance : mg "isinstance" = none
  int : mg "int" = none
  bool : mg "bool" = none
  list : mg "list" = none
  tuple : mg "tuple" = none
  sorted : mg "sorted" = none
  min : mg "min" = none
  max : mg "max" = none
  zip : mg "zip" = none
  enumerate : mg "enumerate" = none
  all : mg "all" = none
  any : mg "any" = none
  set : mg "set" = none
  repr : mg "repr" = none
  str : mg "str" = none
  MOST_VALUE : GInt mg "MOST_VALUE" 1000000
  MOST_CALLS : GInt mg "MOST_CALLS" 10
  MOST_THINGS : GInt mg "MOST_THINGS" 4
  MOST_ROOM : GInt mg "MOST_ROOM" 9
  ROOM : GStr mg "ROOM" "room"
  GIVERS : mg "GIVERS" = some (.ref A.giv)
  ASKERS : mg "ASKERS" = some (.ref A.ask)
  NUMBERS : mg "NUMBERS" = some (.ref A.num)
  WORDS : mg "WORDS" = some (.ref A.wd)
  giv : KTup K A.giv ((["write", "put", "enter", "leave", "join", "drop"] : List Str).map V.str)
  ask : KTup K A.ask ((["read", "take"] : List Str).map V.str)
  num : KTup K A.num ((["count", "draw"] : List Str).map V.str)
  words : ∃ es n, KDict K w A.wd es n
  w_cell : Wd K A.wd "cell" ["write", "read"]
  w_queue : Wd K A.wd "queue" ["put", "take"]
  w_stack : Wd K A.wd "stack" ["put", "take"]
  w_heads : Wd K A.wd "heads" ["put", "take"]
  w_counter : Wd K A.wd "counter" ["add", "count"]
  w_tickets : Wd K A.wd "tickets" ["draw"]
  w_set : Wd K A.wd "set" ["join", "drop", "has"]
  w_room : Wd K A.wd "room" ["enter", "leave"]
  eH : Er K mg "BadHistory" A.cH A.fH (inClass (topS 2) 0)
  eL : Er K mg "BadLot" A.cL A.fL (inClass (topS 3) 0)
  eT : Er K mg "BadThing" A.cT A.fT (inClass (topS 4) 0)
  mHL : PySem.W.exmOne K (.ref A.cH) (.ref A.cL) = some false
  mHT : PySem.W.exmOne K (.ref A.cH) (.ref A.cT) = some false
  mLH : PySem.W.exmOne K (.ref A.cL) (.ref A.cH) = some false
  mLT : PySem.W.exmOne K (.ref A.cL) (.ref A.cT) = some false
  mTH : PySem.W.exmOne K (.ref A.cT) (.ref A.cH) = some false
  mTL : PySem.W.exmOne K (.ref A.cT) (.ref A.cL) = some false
  mHH : PySem.W.exmOne K (.ref A.cH) (.ref A.cH) = some true
  mLL : PySem.W.exmOne K (.ref A.cL) (.ref A.cL) = some true
  mTT : PySem.W.exmOne K (.ref A.cT) (.ref A.cT) = some true

section
variable {X : Cx}
theorem pe_gi {x : Str} {i : Int} {pos : Pos} (hg : Gl X x) (h : GInt X.mg x i) (hd : (x == ("__debug__" : Str)) = false := by decide) : PE X (.Name x pos) (tC (.int i)) := by
  obtain ⟨t, hm⟩ := h
  exact pe_glob hg hm ⟨_, rfl⟩ hd
theorem pe_gs {x z : Str} {pos : Pos} (hg : Gl X x) (h : GStr X.mg x z) (hd : (x == ("__debug__" : Str)) = false := by decide) : PE X (.Name x pos) (tC (.str z)) := by
  obtain ⟨t, hm⟩ := h
  exact pe_glob hg hm ⟨_, rfl⟩ hd
theorem pe_gr {x : Str} {a : Addr} {pos : Pos} (hg : Gl X x) (h : X.mg x = some (.ref a)) (hd : (x == ("__debug__" : Str)) = false := by decide) : PE X (.Name x pos) (tC (.ref a)) := pe_glob hg h rfl hd
end

section
variable {P : Program} {w : World} {K : PySem.W.Frag} {mg : Str → Option Value} {base : Heap}
/-- a def by its body -/
theorem cal_of {x : Str} {st : Stmt} {N ps : List Str} {k : Nat} {sp : Sp} (D : DF K mg x st ps) (S : FnScope N ps (C8.fnScope st)) (len : ∀ vs H Q E, sp vs H Q E → vs.length = ps.length)
    (hbody : ∀ (f : Addr) (cdv : Value) (A : Around) (outer : List Env) (s : Shared) (H : Hp) (vs : List V) (Q : VK) (E : XK), Room k (A.deeper (envOfC x (C8.fnScope st) s.heap.objs.size f cdv)) → sp vs H Q E →
      ∃ t, PSs (cxOf C8.CX0 P w K mg base N x (C8.fnScope st) f cdv A outer s H E).nox (C8.fnBody st) t ∧ t { nx := fun _ H' => Q .non H', rt := Q } (start N vs) H) : C8.Cal P w K mg base (k + 1) x sp [] := by
  obtain ⟨f, fd, F, b⟩ := D.ex
  exact C8.cal0 F b .nil S len fun cdv A outer s H vs Q E => hbody f cdv A outer s H vs Q E
end
end SB
end

section
set_option Elab.async false
set_option linter.all false
set_option maxRecDepth 100000
set_option maxHeartbeats 2000000
set_option autoImplicit false
/-! SbEv: what evaluates to data, leaving what is known. -/
namespace SB
open PySem PySem.Spec PyProof.Rows L2 Evl

def EvP (te : TE) (σ : L2.St) (H : Hp) (P : V → Hp → Prop) : Prop := ∀ H1, Ex H H1 → ∀ Q : VK, (∀ v H2, Ex H1 H2 → P v H2 → Q v H2) → te σ H1 Q
/-- te gives data d -/
def EvD (K : PySem.W.Frag) (te : TE) (σ : L2.St) (H : Hp) (d : PyData) : Prop := EvP te σ H fun v H2 => Dt K No H2 v d
def EvAD (K : PySem.W.Frag) (ta : TA) (σ : L2.St) (H : Hp) (ds : List PyData) : Prop := ∀ H1, Ex H H1 → ∀ Q : List V → Hp → Prop, (∀ vs H2, Ex H1 H2 → DtAll K No H2 vs ds → Q vs H2) → ta σ H1 Q
/-- a promise over data: R tells the answer of the arguments -/
def spP (K : PySem.W.Frag) (n : Nat) (R : List PyData → PyData → Prop) : Sp := fun vs H Q _ => vs.length = n ∧ ∃ ds d, DtAll K No H vs ds ∧ R ds d ∧ ∀ v H', Ex H H' → Dt K No H' v d → Q v H'

section
variable {K : PySem.W.Frag} {σ : L2.St} {H H' : Hp} {ta tb tc te tl : TE} {t u : TT} {d e f : PyData} {x y z v : V}
theorem EvD.mono (a : Ex H H') (h : EvD K te σ H d) : EvD K te σ H' d := fun H1 b Q q => h H1 (a.trans b) Q q
theorem EvAD.mono {ar : TA} {ds : List PyData} (a : Ex H H') (h : EvAD K ar σ H ds) : EvAD K ar σ H' ds := fun H1 b Q q => h H1 (a.trans b) Q q
theorem EvD.go {Q : VK} (h : EvD K te σ H d) (k : ∀ v H2, Ex H H2 → Dt K No H2 v d → Q v H2) : te σ H Q := h H (Ex.refl H) Q k
theorem ev_go {Q : VK} (h : Ev te σ H v) (k : ∀ H2, Ex H H2 → Q v H2) : te σ H Q := h H (Ex.refl H) Q k
theorem evt_go {b : Bool} {Q : Bool → Hp → Prop} (h : EvT t σ H b) (k : ∀ H2, Ex H H2 → Q b H2) : t σ H Q := h H (Ex.refl H) Q k
theorem evd_of (h : Ev te σ H v) (hd : Dt K No H v d) : EvD K te σ H d := fun H1 a Q q => h H1 a Q fun H2 b => q v H2 b (hd.ex (a.trans b))
theorem EvD.i {i : Int} (h : EvD K te σ H (.int i)) : Ev te σ H (.int i) := fun H1 a Q q => h H1 a Q fun v H2 b hd => by
  rw [hd.toInt]
  exact q H2 b
theorem EvD.b {i : Bool} (h : EvD K te σ H (.bool i)) : Ev te σ H (.bl i) := fun H1 a Q q => h H1 a Q fun v H2 b hd => by
  rw [hd.toBl]
  exact q H2 b
theorem EvD.s {i : Str} (h : EvD K te σ H (.str i)) : Ev te σ H (.str i) := fun H1 a Q q => h H1 a Q fun v H2 b hd => by
  rw [hd.toStr]
  exact q H2 b
theorem EvD.n (h : EvD K te σ H .none) : Ev te σ H .non := fun H1 a Q q => h H1 a Q fun v H2 b hd => by
  rw [hd.toNon]
  exact q H2 b
theorem evd_i {i : Int} (h : Ev te σ H (.int i)) : EvD K te σ H (.int i) := evd_of h (.int i)
theorem evd_b {i : Bool} (h : Ev te σ H (.bl i)) : EvD K te σ H (.bool i) := evd_of h (.bl i)
theorem evd_s {i : Str} (h : Ev te σ H (.str i)) : EvD K te σ H (.str i) := evd_of h (.str i)
theorem evd_n (h : Ev te σ H .non) : EvD K te σ H .none := evd_of h .non
theorem evd_is {e : PyData} (h : EvD K te σ H d) (q : d = e) : EvD K te σ H e := by
  rw [← q]
  exact h
theorem evd_var {i : Nat} (h : σ[i]? = some (some v)) (hd : Dt K No H v d) : EvD K (tVar i) σ H d := evd_of (ev_var h) hd
theorem ead_nil : EvAD K tNil σ H [] := fun H1 _ _ q => q [] H1 (Ex.refl H1) .nil
theorem ead_cons {tr : TA} {ds : List PyData} (h : EvD K te σ H d) (hr : EvAD K tr σ H ds) : EvAD K (tCons te tr) σ H (d :: ds) := fun H1 a _ q =>
  h H1 a _ fun v H2 b hd => hr H2 (a.trans b) _ fun vs H3 c hs => q _ H3 (b.trans c) (.cons (hd.ex c) hs)
theorem evd_call {n : Nat} {R : List PyData → PyData → Prop} {E : XK} {ar : TA} {ds : List PyData} (h : EvAD K ar σ H ds) (hR : R ds d) (hn : ds.length = n := by rfl) : EvD K (tCall (spP K n R) [] E ar) σ H d := fun H1 a Q q =>
  h H1 a _ fun vs H2 b hs => by
    rw [List.append_nil]
    exact ⟨hs.len.trans hn, ds, d, hs, hR, fun v H3 c hd => q v H3 (b.trans c) hd⟩
theorem evd_tup {ar : TA} {ds : List PyData} (h : EvAD K ar σ H ds) (hz : ds.length ≤ 100000) : EvD K (tTup ar) σ H (.tuple ds) := fun H1 a Q q =>
  h H1 a _ fun vs H2 b hs => ⟨sz_of (by rw [hs.len]; exact hz), fun p hp => q _ _ (b.trans (Ex.new hp)) (.tup (SqT.of upd_same) (hs.ex (Ex.new hp)))⟩
theorem evd_lst {ar : TA} {ds : List PyData} (h : EvAD K ar σ H ds) (hz : ds.length ≤ 100000) : EvD K (tLst ar) σ H (.list ds) := fun H1 a Q q =>
  h H1 a _ fun vs H2 b hs => ⟨sz_of (by rw [hs.len]; exact hz), fun p hp => q _ _ (b.trans (Ex.new hp)) (.lst upd_same (fun z => z) (hs.ex (Ex.new hp)))⟩
/-- an operator on data -/
theorem evd_op {r : R2} (ha : EvD K ta σ H d) (hb : EvD K tb σ H e) (hr : ∀ x y H1, Ex H H1 → Dt K No H1 x d → Dt K No H1 y e → ∀ Q : VK, (∀ v H2, Ex H1 H2 → Dt K No H2 v f → Q v H2) → r x y H1 Q) : EvD K (tOp r ta tb) σ H f := fun H1 a Q q =>
  ha H1 a _ fun x H2 b hx => hb H2 (a.trans b) _ fun y H3 c hy => hr x y H3 ((a.trans b).trans c) (hx.ex c) hy Q fun v H4 g hv => q v H4 ((b.trans c).trans g) hv
theorem ev_opD {r : R2} (ha : EvD K ta σ H d) (hb : EvD K tb σ H e) (hr : ∀ x y H1, Ex H H1 → Dt K No H1 x d → Dt K No H1 y e → ∀ Q : VK, Q z H1 → r x y H1 Q) : Ev (tOp r ta tb) σ H z := fun H1 a Q q =>
  ha H1 a _ fun x H2 b hx => hb H2 (a.trans b) _ fun y H3 c hy => hr x y H3 ((a.trans b).trans c) (hx.ex c) hy Q (q H3 (b.trans c))
theorem evd_ixT {ds : List PyData} {i : Int} (ha : EvD K ta σ H (.tuple ds)) (hb : Ev tb σ H (.int i)) (hi : atI ds i = some d) : EvD K (tOp (rIxT K) ta tb) σ H d := evd_op ha (evd_i hb) fun x y H1 _ hx hy Q q => by
  obtain ⟨a, xs, rfl, hs, hd⟩ := hx.toTup
  obtain rfl := hy.toInt
  unfold atI at hi
  obtain ⟨j, hj, hi⟩ := Option.bind_eq_some_iff.mp hi
  obtain ⟨v, hv, hdv⟩ := hd.at hi
  refine ⟨a, xs, i, v, rfl, rfl, hs, ?_, q v H1 (Ex.refl H1) hdv⟩
  unfold atI
  rw [hd.len, hj]
  exact hv
theorem evd_ixL {ds : List PyData} {i : Int} (ha : EvD K ta σ H (.list ds)) (hb : Ev tb σ H (.int i)) (hi : atI ds i = some d) : EvD K (tOp (rIxL K) ta tb) σ H d := evd_op ha (evd_i hb) fun x y H1 _ hx hy Q q => by
  obtain ⟨a, xs, rfl, hs, _, hd⟩ := hx.toLst
  obtain rfl := hy.toInt
  unfold atI at hi
  obtain ⟨j, hj, hi⟩ := Option.bind_eq_some_iff.mp hi
  obtain ⟨v, hv, hdv⟩ := hd.at hi
  refine ⟨a, xs, i, v, rfl, rfl, hs, ?_, q v H1 (Ex.refl H1) hdv⟩
  unfold atI
  rw [hd.len, hj]
  exact hv
theorem atI_of {α : Type} {xs : List α} {i : Int} {j : Nat} {x : α} (e : i = (j : Int)) (h : xs[j]? = some x) : atI xs i = some x := by
  rw [e]
  exact atI_nat h
theorem evd_slT {tlo thi : TO} {ds : List PyData} {lo hi : Option Int} (h : EvD K te σ H (.tuple ds)) (h1 : EvO tlo σ H lo) (h2 : EvO thi σ H hi) : EvD K (tSl (rSlA K) te tlo thi) σ H (.tuple ((ds.drop (HT.sIx ds.length 0 lo)).take (HT.sIx ds.length ds.length hi - HT.sIx ds.length 0 lo))) := fun H1 a Q q =>
  h H1 a _ fun x H2 b hx => h1 H2 (a.trans b) _ fun H3 c => h2 H3 ((a.trans b).trans c) _ fun H4 g => by
    obtain ⟨p, xs, rfl, hs, hd⟩ := (hx.ex (c.trans g)).toTup
    refine ⟨p, xs, rfl, hs, fun w => q _ H4 ((b.trans c).trans g) ?_, fun _ p2 hp => q _ _ (((b.trans c).trans g).trans (Ex.new hp)) (.tup (SqT.of upd_same) ((hd.cut lo hi).ex (Ex.new hp)))⟩
    rw [hd.len] at w
    refine .tup hs ?_
    rw [w.1, w.2, List.drop_zero, Nat.sub_zero, List.take_length]
    exact hd
theorem evd_cat {ds es : List PyData} (ha : EvD K ta σ H (.tuple ds)) (hb : EvD K tb σ H (.tuple es)) (hz : ds.length + es.length ≤ 100000) : EvD K (tOp (rCatA K) ta tb) σ H (.tuple (ds ++ es)) := evd_op ha hb fun x y H1 _ hx hy Q q => by
  obtain ⟨a, xs, rfl, hs, hd⟩ := hx.toTup
  obtain ⟨b, ys, rfl, hs', he⟩ := hy.toTup
  refine ⟨a, b, xs, ys, rfl, rfl, hs, hs', sz_of (by rw [hd.len, he.len]; exact hz), fun z => q _ H1 (Ex.refl H1) ?_, fun _ z => q _ H1 (Ex.refl H1) ?_, fun _ _ p hp => q _ _ (Ex.new hp) (.tup (SqT.of upd_same) ((hd.app he).ex (Ex.new hp)))⟩
  · subst z
    cases hd
    exact .tup hs' he
  · subst z
    cases he
    rw [List.append_nil]
    exact .tup hs hd
theorem evd_if {b : Bool} (h : EvT t σ H b) (h1 : b = true → EvD K ta σ H d) (h2 : b = false → EvD K tb σ H d) : EvD K (tIf t ta tb) σ H d := fun H1 a Q q => h H1 a _ fun H2 c => by
  cases b with
  | true =>
    show ta σ H2 Q
    exact h1 rfl H2 (a.trans c) Q fun v H3 g => q v H3 (c.trans g)
  | false =>
    show tb σ H2 Q
    exact h2 rfl H2 (a.trans c) Q fun v H3 g => q v H3 (c.trans g)
/-- == and != of data -/
theorem dp_of {v : V} {d : PyData} (h : Dt K No H v d) (s : SeqAt.shaped d = true) : Dp K H v d := Dt.dp d v (PyData.hasDict_of_canLay d (SeqAt.canLay_of_shaped s)) h
theorem ev_eqD (ha : EvD K ta σ H d) (hb : EvD K tb σ H e) (sd : SeqAt.shaped d = true) (se : SeqAt.shaped e = true) : Ev (tOp (rEqD K) ta tb) σ H (.bl (PyData.eqv d e)) := ev_opD ha hb fun x y H1 _ hx hy Q q => ⟨d, e, dp_of hx sd, dp_of hy se, sd, se, q⟩
theorem ev_neD (ha : EvD K ta σ H d) (hb : EvD K tb σ H e) (sd : SeqAt.shaped d = true) (se : SeqAt.shaped e = true) : Ev (tOp (rNeD K) ta tb) σ H (.bl (!PyData.eqv d e)) := ev_opD ha hb fun x y H1 _ hx hy Q q => ⟨d, e, dp_of hx sd, dp_of hy se, sd, se, q⟩
/-- isinstance of data -/
def kitD (d : PyData) (n : String) : Option Bool := kitB (tyD d) n
theorem ev_isi {b : Bool} {n : String} (ha : EvD K ta σ H d) (hb : Ev tb σ H (.ty n)) (hk : kitB (tyD d) n = some b) : Ev (tCB (rIsi K) (tCons ta (tCons tb tNil))) σ H (.bl b) := fun H1 a Q q =>
  ha H1 a _ fun x H2 c hx => hb H2 (a.trans c) _ fun H3 g => ⟨x, .ty n, .type (tyD d), .type n, b, rfl, .ty n, (hx.ex g).ty, kit_ty hk, q H3 (c.trans g)⟩
/-- len of data -/
theorem ev_lenT {ds : List PyData} (ha : EvD K ta σ H (.tuple ds)) : Ev (tCB (fun xs H Q => ∃ p ys, xs = [.ref p] ∧ (SqL K H p ys ∨ SqT K H p ys) ∧ Q (.int ys.length) H) (tCons ta tNil)) σ H (.int (ds.length : Int)) := fun H1 a Q q =>
  ha H1 a _ fun x H2 c hx => by
    obtain ⟨p, xs, rfl, hs, hd⟩ := hx.toTup
    refine ⟨p, xs, rfl, .inr hs, ?_⟩
    rw [hd.len]
    exact q H2 c
theorem ev_lenLD {ds : List PyData} (ha : EvD K ta σ H (.list ds)) : Ev (tCB (fun xs H Q => ∃ p ys, xs = [.ref p] ∧ (SqL K H p ys ∨ SqT K H p ys) ∧ Q (.int ys.length) H) (tCons ta tNil)) σ H (.int (ds.length : Int)) := fun H1 a Q q =>
  ha H1 a _ fun x H2 c hx => by
    obtain ⟨p, xs, rfl, hs, _, hd⟩ := hx.toLst
    refine ⟨p, xs, rfl, .inl hs, ?_⟩
    rw [hd.len]
    exact q H2 c
/-- all(..), any(..) over a list of truth values -/
theorem ev_all {bs : List Bool} (ha : EvD K ta σ H (.list (bs.map PyData.bool))) : Ev (tCB (rAll K) (tCons ta tNil)) σ H (.bl (bs.all id)) := fun H1 a Q q =>
  ha H1 a _ fun x H2 c hx => by
    obtain ⟨p, xs, rfl, hs, _, hd⟩ := hx.toLst
    rw [hd.toBls] at hs
    exact ⟨p, bs, rfl, hs, q H2 c⟩
theorem ev_any {bs : List Bool} (ha : EvD K ta σ H (.list (bs.map PyData.bool))) : Ev (tCB (rAny K) (tCons ta tNil)) σ H (.bl (bs.any id)) := fun H1 a Q q =>
  ha H1 a _ fun x H2 c hx => by
    obtain ⟨p, xs, rfl, hs, _, hd⟩ := hx.toLst
    rw [hd.toBls] at hs
    exact ⟨p, bs, rfl, hs, q H2 c⟩
/-- a chain of two comparisons of ints -/
theorem ev_chain {g g' : Int → Int → Bool} {i j k : Int} (ha : Ev ta σ H (.int i)) (hb : Ev tb σ H (.int j)) (hc : Ev tc σ H (.int k)) :
    Ev (tChain (rI0 fun i j => .bl (g i j)) (rI0 fun i j => .bl (g' i j)) ta tb tc) σ H (.bl (g i j && g' j k)) := fun H1 a Q q =>
  ha H1 a _ fun H2 b => hb H2 (a.trans b) _ fun H3 c => ⟨i, j, rfl, rfl, g i j, rfl, by
    cases hg : g i j with
    | true =>
      show tc σ H3 _
      refine hc H3 ((a.trans b).trans c) _ fun H4 e4 => ⟨j, k, rfl, rfl, ?_⟩
      have q4 := q H4 ((b.trans c).trans e4)
      rw [hg, Bool.true_and] at q4
      exact q4
    | false =>
      have q3 := q H3 (b.trans c)
      rw [hg, Bool.false_and] at q3
      exact q3⟩
end

/-- te gives a new list of data -/
def EvN (K : PySem.W.Frag) (te : TE) (σ : L2.St) (H : Hp) (ds : List PyData) : Prop := ∀ H1, Ex H H1 → ∀ Q : VK, (∀ p xs H2, H1 p = none → Ex H1 H2 → H2 p = some (.lst xs) → DtAll K No H2 xs ds → Q (.ref p) H2) → te σ H1 Q
theorem EvN.mono {K : PySem.W.Frag} {te : TE} {σ : L2.St} {H H' : Hp} {ds : List PyData} (a : Ex H H') (h : EvN K te σ H ds) : EvN K te σ H' ds := fun H1 b Q q => h H1 (a.trans b) Q q
theorem EvN.d {K : PySem.W.Frag} {te : TE} {σ : L2.St} {H : Hp} {ds : List PyData} (h : EvN K te σ H ds) : EvD K te σ H (.list ds) := fun H1 a Q q => h H1 a Q fun p xs H2 hp e h1 hd => q _ H2 e (.lst h1 (fun z => z) hd)
theorem EvN.go {K : PySem.W.Frag} {te : TE} {σ : L2.St} {H : Hp} {ds : List PyData} {Q : VK} (h : EvN K te σ H ds) (k : ∀ p xs H2, H p = none → Ex H H2 → H2 p = some (.lst xs) → DtAll K No H2 xs ds → Q (.ref p) H2) : te σ H Q := h H (Ex.refl H) Q k
theorem evn_is {K : PySem.W.Frag} {te : TE} {σ : L2.St} {H : Hp} {ds es : List PyData} (h : EvN K te σ H ds) (q : ds = es) : EvN K te σ H es := by
  rw [← q]
  exact h
theorem evn_lst {K : PySem.W.Frag} {σ : L2.St} {H : Hp} {ar : TA} {ds : List PyData} (h : EvAD K ar σ H ds) (hz : ds.length ≤ 100000) : EvN K (tLst ar) σ H ds := fun H1 a Q q =>
  h H1 a _ fun vs H2 b hs => ⟨sz_of (by rw [hs.len]; exact hz), fun p hp => q p _ _ (fresh_back b hp) (b.trans (Ex.new hp)) upd_same (hs.ex (Ex.new hp))⟩
/-- what te gives does not lie at Dl -/
def EvB (K : PySem.W.Frag) (Dl : Addr) (te : TE) (σ : L2.St) (H : Hp) (e : PyData) : Prop := ∀ H1, Ex H H1 → ∀ Q : VK, (∀ y H2, Ex H1 H2 → Dt K (fun b => b = Dl) H2 y e → Q y H2) → te σ H1 Q
section
variable {K : PySem.W.Frag} {σ : L2.St} {H H0 : Hp} {te : TE} {e : PyData} {Dl : Addr}
theorem EvB.of (h : EvD K te σ H e) (n : noL e = true) : EvB K Dl te σ H e := fun H1 a Q q => h H1 a Q fun y H2 b hd => q y H2 b (hd.any n)
theorem EvB.old {j : Nat} {x : V} (hx : σ[j]? = some (some x)) (hd : Dt K No H0 x e) (hD : H0 Dl = none) (a : Ex H0 H) : EvB K Dl (tVar j) σ H e := fun H1 b Q q => ⟨x, hx, q x H1 (Ex.refl H1) ((hd.old hD).ex (a.trans b))⟩
theorem EvB.new {ds : List PyData} {acc : List V} (h : EvN K te σ H ds) (n : noL.noLs ds = true) (hD : H Dl = some (.lst acc)) : EvB K Dl te σ H (.list ds) := fun H1 a Q q => h H1 a Q fun p xs H2 hp b h1 hd => q _ H2 b (.lst h1 (fun z => by
  rw [z, a Dl _ hD] at hp
  cases hp) (hd.any n))
end

/-! ### comprehensions over data -/
section
variable {K : PySem.W.Frag} {σ : L2.St} {H H' : Hp} {tl te : TE} {t : TT} {d e : PyData}
/-- the list so far -/
structure Cd (K : PySem.W.Frag) (H : Hp) (Dl : Addr) (n : Nat) (ds : List PyData) (H' : Hp) : Prop where
  new : H Dl = none
  ex : Ex H H'
  acc : ∃ acc, H' Dl = some (.lst acc) ∧ DtAll K (fun b => b = Dl) H' acc ds
  le : ds.length ≤ n
theorem Cd.up {Dl : Addr} {n : Nat} {ds : List PyData} {H2 : Hp} (p : Cd K H Dl n ds H') (a : Ex H' H2) : Cd K H Dl n ds H2 :=
  let ⟨acc, h1, h2⟩ := p.acc
  ⟨p.new, p.ex.trans a, ⟨acc, a _ _ h1, h2.ex a⟩, p.le⟩
theorem kp_lst {Dl : Addr} {acc : List V} {o : HO} (hD : H Dl = some (.lst acc)) : Kp (fun b => b = Dl) H (upd H Dl o) := by
  refine ⟨fun b o nb hb => by rw [upd_ne nb]; exact hb, fun b xs hb => ?_, fun b hb => ?_, fun b o u hb => ?_⟩
  · rw [upd_ne (ne_of hb hD (by intro z; cases z))]
    exact hb
  · rw [upd_ne (ne_of hb hD (by intro z; cases z))]
    exact hb
  · rw [upd_ne (ne_of hb hD (by intro z; cases z))]
    exact hb
theorem noLs_of : ∀ {ds : List PyData}, (∀ x ∈ ds, noL x = true) → noL.noLs ds = true
  | [], _ => rfl
  | x :: r, h => Bool.and_eq_true_iff.mpr ⟨h x List.mem_cons_self, noLs_of fun z hz => h z (List.mem_cons_of_mem _ hz)⟩
/-- a turn -/
theorem Cd.turn {σ2 : L2.St} {Dl : Addr} {n : Nat} {ds : List PyData} {b : Bool} {H0 : Hp} (p : Cd K H0 Dl n ds H') (hn : n < 50000) (ht : EvT t σ2 H' b) (he : b = true → EvB K Dl te σ2 H' e) :
    t σ2 H' fun c H3 => if c = true then te σ2 H3 fun y H4 => ∃ acc, H4 Dl = some (.lst acc) ∧ acc.length < sizeLine ∧ Cd K H0 Dl (n + 1) (if b = true then ds ++ [e] else ds) (upd H4 Dl (.lst (acc ++ [y]))) else Cd K H0 Dl (n + 1) (if b = true then ds ++ [e] else ds) H3 := by
  obtain ⟨p1, p2, ⟨acc, p3, p4⟩, p5⟩ := p
  refine ht H' (Ex.refl H') _ fun H3 e3 => ?_
  cases b with
  | true =>
    refine he rfl H3 e3 _ fun y H4 e4 hy => ⟨acc, e4 Dl _ (e3 Dl _ p3), sz_lt (by rw [p4.len]; omega), p1, Ex.mut ((p2.trans e3).trans e4) p1, ⟨_, upd_same, ?_⟩, ?_⟩
    · exact ((p4.ex (e3.trans e4)).app (.cons hy .nil)).ke (kp_lst (e4 Dl _ (e3 Dl _ p3)))
    · show (ds ++ [e]).length ≤ n + 1
      rw [List.length_append]
      exact Nat.succ_le_succ p5
  | false =>
    exact ⟨p1, p2.trans e3, ⟨acc, e3 Dl _ p3, p4.ex e3⟩, Nat.le_succ_of_le p5⟩

/-- what a comprehension over ds gives: those that pass f, g of each -/
def fm (f : PyData → Bool) (g : PyData → PyData) (ds : List PyData) : List PyData := (ds.filter f).map g
theorem fm_snoc (f : PyData → Bool) (g : PyData → PyData) (ds : List PyData) (d : PyData) : fm f g (ds ++ [d]) = if f d = true then fm f g ds ++ [g d] else fm f g ds := by
  unfold fm
  rw [List.filter_append, List.map_append]
  cases h : f d with
  | true => simp [h]
  | false => simp [h]
theorem take_snoc {α : Type} {l : List α} {i : Nat} {x : α} (h : l[i]? = some x) : l.take (i + 1) = l.take i ++ [x] := by
  rw [List.take_add_one, h]
  rfl
theorem fm_mem {f : PyData → Bool} {g : PyData → PyData} {ds : List PyData} {x : PyData} (h : x ∈ fm f g ds) : ∃ d ∈ ds, f d = true ∧ x = g d := by
  obtain ⟨d, hd, e⟩ := List.mem_map.mp h
  obtain ⟨h1, h2⟩ := List.mem_filter.mp hd
  exact ⟨d, h1, h2, e.symm⟩
/-- the target takes x, then test and element are known -/
def Tk (K : PySem.W.Frag) (σ : L2.St) (gt : TG) (t : TT) (te : TE) (vs : List Nat) (H0 : Hp) (x : V) (b : Bool) (e : PyData) : Prop :=
  ∀ H', Ex H0 H' → ∀ R : L2.St → Hp → Prop, (∀ σ2 H2, Ex H' H2 → wipe σ2 vs = wipe σ vs → EvT t σ2 H2 b → (b = true → ∀ Dl acc, H0 Dl = none → H2 Dl = some (.lst acc) → EvB K Dl te σ2 H2 e) → R σ2 H2) → gt x (wipe σ vs) H' R
/-- the invariant of a comprehension's loop over the items xs (data ds) -/
def Ci (K : PySem.W.Frag) (H1 : Hp) (f : PyData → Bool) (g : PyData → PyData) (ds : List PyData) (Dl : Addr) (i : Nat) (H' : Hp) : Prop := Cd K H1 Dl i (fm f g (ds.take i)) H'
theorem ci_turn {gt : TG} {vs : List Nat} {f : PyData → Bool} {g : PyData → PyData} {ds : List PyData} {Dl : Addr} {i : Nat} {x : V} {H1 : Hp} (hd : ds[i]? = some d) (hz : ds.length ≤ 40000)
    (tk : Tk K σ gt t te vs H1 x (f d) (g d)) (p : Ci K H1 f g ds Dl i H') :
    gt x (wipe σ vs) H' fun σ2 H2 => wipe σ2 vs = wipe σ vs ∧ t σ2 H2 fun b H3 => if b = true then te σ2 H3 fun y H4 => ∃ acc, H4 Dl = some (.lst acc) ∧ acc.length < sizeLine ∧ Ci K H1 f g ds Dl (i + 1) (upd H4 Dl (.lst (acc ++ [y]))) else Ci K H1 f g ds Dl (i + 1) H3 := by
  refine tk H' p.ex _ fun σ2 H2 a hw ht he => ⟨hw, ?_⟩
  unfold Ci
  rw [take_snoc hd, fm_snoc]
  have hi : i < ds.length := (List.getElem?_eq_some_iff.mp hd).1
  have p2 := p.up a
  obtain ⟨acc, h1, _⟩ := id p2.acc
  exact Cd.turn p2 (by omega) ht fun hb => he hb Dl acc p.new h1
theorem ci_end {f : PyData → Bool} {g : PyData → PyData} {ds : List PyData} {Dl : Addr} {H1 H0 : Hp} {Q : VK} (a : Ex H0 H1) (q : ∀ p xs H2, H0 p = none → Ex H0 H2 → H2 p = some (.lst xs) → DtAll K No H2 xs (fm f g ds) → Q (.ref p) H2) (n : Nat) (hn : ds.length ≤ n) (p : Ci K H1 f g ds Dl n H') : Q (.ref Dl) H' := by
  obtain ⟨acc, h1, h2⟩ := p.acc
  rw [List.take_of_length_le hn] at h2
  exact q Dl acc H' (fresh_back a p.new) (a.trans p.ex) h1 h2.no
theorem ci_start {f : PyData → Bool} {g : PyData → PyData} {ds : List PyData} {Dl : Addr} (h : H Dl = none) : Ci K H f g ds Dl 0 (upd H Dl (.lst [])) := ⟨h, Ex.new h, ⟨[], upd_same, .nil⟩, Nat.le_refl _⟩
/-- over a tuple, a list, a range -/
theorem evn_lcT {gt : TG} {vs : List Nat} {ds : List PyData} (f : PyData → Bool) (g : PyData → PyData) (h : EvD K tl σ H (.tuple ds)) (hz : ds.length ≤ 40000)
    (tk : ∀ d ∈ ds, ∀ x H1, Ex H H1 → Dt K No H1 x d → Tk K σ gt t te vs H1 x (f d) (g d)) : EvN K (tLc (iTup K tl) gt t te vs) σ H (fm f g ds) := fun H0 a Q q => h H0 a _ fun x H1 b hx => by
  obtain ⟨p, xs, rfl, hs, hd⟩ := hx.toTup
  refine ⟨p, rfl, ⟨xs, hs⟩, fun Dl hD => lc_tup (xs := xs) (Ci K H1 f g ds Dl) (ci_start hD) (fun i H' _ c => ex_t c.ex hs) (fun i x H' hi c => ?_) (fun H' c => ci_end b q xs.length (Nat.le_of_eq hd.len.symm) c)⟩
  obtain ⟨d, hdi, hxd⟩ := hd.get hi
  exact ci_turn hdi hz (tk d (List.mem_of_getElem? hdi) x H1 (a.trans b) hxd) c
theorem evn_lcL {gt : TG} {vs : List Nat} {ds : List PyData} (f : PyData → Bool) (g : PyData → PyData) (h : EvD K tl σ H (.list ds)) (hz : ds.length ≤ 40000)
    (tk : ∀ d ∈ ds, ∀ x H1, Ex H H1 → Dt K No H1 x d → Tk K σ gt t te vs H1 x (f d) (g d)) : EvN K (tLc (iList K tl) gt t te vs) σ H (fm f g ds) := fun H0 a Q q => h H0 a _ fun x H1 b hx => by
  obtain ⟨p, xs, rfl, hs, _, hd⟩ := hx.toLst
  refine ⟨p, rfl, ⟨xs, hs⟩, fun Dl hD => lc_list (xs := xs) (Ci K H1 f g ds Dl) (ci_start hD) (fun i H' _ c => ex_l c.ex hs) (fun i x H' hi c => ?_) (fun H' c => ci_end b q xs.length (Nat.le_of_eq hd.len.symm) c)⟩
  obtain ⟨d, hdi, hxd⟩ := hd.get hi
  exact ci_turn hdi hz (tk d (List.mem_of_getElem? hdi) x H1 (a.trans b) hxd) c
/-- the ints from lo on -/
def rgD (lo : Int) (n : Nat) : List PyData := (List.range n).map fun i => PyData.int (lo + (i : Nat))
theorem rgD_len (lo : Int) (n : Nat) : (rgD lo n).length = n := by
  unfold rgD
  rw [List.length_map, List.length_range]
theorem rgD_get {lo : Int} {n i : Nat} (h : i < n) : (rgD lo n)[i]? = some (.int (lo + (i : Nat))) := by
  unfold rgD
  rw [List.getElem?_map, List.getElem?_range h]
  rfl
theorem evn_lcR1 {ta : TA} {gt : TG} {vs : List Nat} {n : Nat} (f : PyData → Bool) (g : PyData → PyData) (h : EvAD K ta σ H [.int (n : Int)]) (hz : n ≤ 40000)
    (tk : ∀ i : Nat, i < n → ∀ H1, Ex H H1 → Tk K σ gt t te vs H1 (.int (i : Nat)) (f (.int (i : Nat))) (g (.int (i : Nat)))) : EvN K (tLc (iRng1 ta) gt t te vs) σ H (fm f g (rgD 0 n)) := fun H0 a Q q => h H0 a _ fun vs H1 b hv => by
  obtain rfl := DtAll.toInts (ns := [(n : Int)]) hv
  refine ⟨n, rfl, by omega, by omega, fun Dl hD => lc_range (lo := 0) (n := n) (Ci K H1 f g (rgD 0 n) Dl) (ci_start hD) (fun i H' hi c => ?_) (fun H' c => ci_end b q n (Nat.le_of_eq (rgD_len _ _)) c)⟩
  have e0 : (0 : Int) + (i : Int) = (i : Int) := Int.zero_add _
  have hg := rgD_get (lo := 0) hi
  rw [e0] at hg ⊢
  exact ci_turn hg (by rw [rgD_len]; omega) (tk i hi H1 (a.trans b)) c
theorem evn_lcR2 {ta : TA} {gt : TG} {vs : List Nat} {lo n : Int} (f : PyData → Bool) (g : PyData → PyData) (h : EvAD K ta σ H [.int lo, .int n]) (hz : -1000000000 ≤ lo ∧ n ≤ 1000000000 ∧ lo ≤ n ∧ n - lo ≤ 40000)
    (tk : ∀ i : Nat, lo + (i : Int) < n → ∀ H1, Ex H H1 → Tk K σ gt t te vs H1 (.int (lo + (i : Nat))) (f (.int (lo + (i : Nat)))) (g (.int (lo + (i : Nat))))) : EvN K (tLc (iRng2 ta) gt t te vs) σ H (fm f g (rgD lo (n - lo).toNat)) := fun H0 a Q q => h H0 a _ fun vs H1 b hv => by
  obtain rfl := DtAll.toInts (ns := [lo, n]) hv
  refine ⟨lo, n, rfl, ⟨by omega, by omega, by omega, by omega⟩, fun Dl hD => lc_range (lo := lo) (n := (n - lo).toNat) (Ci K H1 f g (rgD lo (n - lo).toNat) Dl) (ci_start hD) (fun i H' hi c => ?_) (fun H' c => ci_end b q (n - lo).toNat (Nat.le_of_eq (rgD_len _ _)) c)⟩
  exact ci_turn (rgD_get hi) (by rw [rgD_len]; omega) (tk i (by omega) H1 (a.trans b)) c
/-- a target that is a name -/
theorem tk_nameB {j : Nat} {x : V} {b : Bool} {H0 : Hp} (ht : EvT t (σ.set j (some x)) H0 b) (he : b = true → ∀ H2, Ex H0 H2 → ∀ Dl acc, H0 Dl = none → H2 Dl = some (.lst acc) → EvB K Dl te (σ.set j (some x)) H2 e) : Tk K σ (gName j) t te [j] H0 x b e := fun H' a R k => by
  have ew : (wipe σ [j]).set j (some x) = σ.set j (some x) := by
    show (σ.set j none).set j (some x) = σ.set j (some x)
    rw [List.set_set]
  have e2 : wipe ((wipe σ [j]).set j (some x)) [j] = wipe σ [j] := by
    rw [ew]
    show (σ.set j (some x)).set j none = σ.set j none
    rw [List.set_set]
  have r := k _ H' (Ex.refl H') e2
  rw [ew] at r
  have r2 := r (ht.mono a) fun hb => he hb H' a
  show R ((wipe σ [j]).set j (some x)) H'
  rw [ew]
  exact r2
theorem tk_name {j : Nat} {x : V} {b : Bool} {H0 : Hp} (ht : EvT t (σ.set j (some x)) H0 b) (he : b = true → EvD K te (σ.set j (some x)) H0 e) (n : b = true → noL e = true) : Tk K σ (gName j) t te [j] H0 x b e :=
  tk_nameB ht fun hb H2 e2 Dl acc _ _ => EvB.of ((he hb).mono e2) (n hb)
/-- the element is the item itself -/
theorem tk_self {j : Nat} {x : V} {b : Bool} {H0 : Hp} (hj : j < σ.length) (hx : Dt K No H0 x e) (ht : EvT t (σ.set j (some x)) H0 b) : Tk K σ (gName j) t (tVar j) [j] H0 x b e :=
  tk_nameB ht fun hb H2 e2 Dl acc hD _ => EvB.old (by rw [List.getElem?_set_self hj]) hx hD e2
/-- the element is a new list -/
theorem tk_new {j : Nat} {x : V} {b : Bool} {H0 : Hp} {ds : List PyData} (ht : EvT t (σ.set j (some x)) H0 b) (he : b = true → EvN K te (σ.set j (some x)) H0 ds) (n : noL.noLs ds = true) : Tk K σ (gName j) t te [j] H0 x b (.list ds) :=
  tk_nameB ht fun hb H2 e2 Dl acc _ hD => EvB.new ((he hb).mono e2) n hD
theorem et_yes : EvT tYes σ H true := fun H1 _ _ q => q H1 (Ex.refl H1)
end
end SB
end

section
set_option Elab.async false
set_option linter.all false
set_option maxRecDepth 100000
set_option maxHeartbeats 2000000
set_option autoImplicit false
/-! SbAuto: readings told by data alone, and a tactic that finds them. -/
namespace SB
open PySem PySem.Spec PyProof.Rows L2 Evl
section
variable {K : PySem.W.Frag} {σ : L2.St} {H H' : Hp} {ta tb tc te tl : TE} {t u : TT} {d e f : PyData} {x y z v : V}
theorem ed_non : EvD K (tC .non) σ H .none := evd_n ev_c
theorem ed_int {i : Int} : EvD K (tC (.int i)) σ H (.int i) := evd_i ev_c
theorem ed_str {i : Str} : EvD K (tC (.str i)) σ H (.str i) := evd_s ev_c
theorem ed_bl {i : Bool} : EvD K (tC (.bl i)) σ H (.bool i) := evd_b ev_c
theorem ed_ref {a : Addr} (h : Dt K No H (.ref a) d) : EvD K (tC (.ref a)) σ H d := evd_of ev_c h
theorem KTup.dt {a : Addr} {ss : List Str} (h : KTup K a (ss.map V.str)) : Dt K No H (.ref a) (.tuple (ss.map PyData.str)) := by
  refine .tup h.t ?_
  clear h
  induction ss with
  | nil => exact .nil
  | cons s r ih => exact .cons (.str s) ih
theorem ed_i0 {g : Int → Int → Int} {i j : Int} (ha : EvD K ta σ H (.int i)) (hb : EvD K tb σ H (.int j)) : EvD K (tOp (rI0 fun i j => .int (g i j)) ta tb) σ H (.int (g i j)) := evd_i (ev_op ha.i hb.i rv_I0)
theorem ed_b0 {g : Int → Int → Bool} {i j : Int} (ha : EvD K ta σ H (.int i)) (hb : EvD K tb σ H (.int j)) : EvD K (tOp (rI0 fun i j => .bl (g i j)) ta tb) σ H (.bool (g i j)) := evd_b (ev_op ha.i hb.i rv_I0)
theorem ed_i {C : Int → Int → Prop} {g : Int → Int → Int} {i j : Int} (ha : EvD K ta σ H (.int i)) (hb : EvD K tb σ H (.int j)) (hc : C i j) : EvD K (tOp (rI C fun i j => .int (g i j)) ta tb) σ H (.int (g i j)) := evd_i (ev_op ha.i hb.i (rv_I hc))
theorem ed_neg {i : Int} (ha : EvD K ta σ H (.int i)) : EvD K (tUn (rU fun i => .int (-i)) ta) σ H (.int (-i)) := evd_i (ev_un ha.i ru_neg)
theorem ed_eqI {i j : Int} (ha : EvD K ta σ H (.int i)) (hb : EvD K tb σ H (.int j)) : EvD K (tOp rEq ta tb) σ H (.bool (decide (i = j))) := evd_b (ev_is (ev_op ha.i hb.i (rv_eq rfl)) (by simp))
theorem ed_neI {i j : Int} (ha : EvD K ta σ H (.int i)) (hb : EvD K tb σ H (.int j)) : EvD K (tOp rNe ta tb) σ H (.bool (!decide (i = j))) := evd_b (ev_is (ev_op ha.i hb.i (rv_ne rfl)) (by simp))
theorem ed_eqS {i j : Str} (ha : EvD K ta σ H (.str i)) (hb : EvD K tb σ H (.str j)) : EvD K (tOp rEq ta tb) σ H (.bool (decide (i = j))) := evd_b (ev_is (ev_op ha.s hb.s (rv_eq rfl)) (by simp))
theorem ed_neS {i j : Str} (ha : EvD K ta σ H (.str i)) (hb : EvD K tb σ H (.str j)) : EvD K (tOp rNe ta tb) σ H (.bool (!decide (i = j))) := evd_b (ev_is (ev_op ha.s hb.s (rv_ne rfl)) (by simp))
theorem ed_eqB {i j : Bool} (ha : EvD K ta σ H (.bool i)) (hb : EvD K tb σ H (.bool j)) : EvD K (tOp rEq ta tb) σ H (.bool (decide (i = j))) := evd_b (ev_is (ev_op ha.b hb.b (rv_eq rfl)) (by simp))
theorem ed_neB {i j : Bool} (ha : EvD K ta σ H (.bool i)) (hb : EvD K tb σ H (.bool j)) : EvD K (tOp rNe ta tb) σ H (.bool (!decide (i = j))) := evd_b (ev_is (ev_op ha.b hb.b (rv_ne rfl)) (by simp))
/-- is None -/
def isNon : PyData → Bool
  | .none => true
  | _ => false
theorem Dt.isNon {v : V} {d : PyData} (h : Dt K No H v d) : decide (v = .non) = isNon d := by
  cases h <;> simp [SB.isNon]
theorem ed_isN (ha : EvD K ta σ H d) (hb : EvD K tb σ H .none) : EvD K (tOp (fun x y H Q => y = .non ∧ Q (.bl (decide (x = .non))) H) ta tb) σ H (.bool (isNon d)) := evd_op ha hb fun x y H1 _ hx hy Q q => ⟨hy.toNon, q _ H1 (Ex.refl H1) (by rw [hx.isNon]; exact .bl _)⟩
theorem ed_notN (ha : EvD K ta σ H d) (hb : EvD K tb σ H .none) : EvD K (tOp (fun x y H Q => y = .non ∧ Q (.bl (!decide (x = .non))) H) ta tb) σ H (.bool (!isNon d)) := evd_op ha hb fun x y H1 _ hx hy Q q => ⟨hy.toNon, q _ H1 (Ex.refl H1) (by rw [hx.isNon]; exact .bl _)⟩
/-- x in a tuple, a list of ints, of texts -/
theorem inV_ints {i : Int} {ns : List Int} : inV (.int i) (ns.map V.int) = decide (i ∈ ns) := by
  unfold inV
  induction ns with
  | nil => rfl
  | cons n r ih =>
    rw [List.map_cons, List.any_cons, ih]
    show (eqV (.int n) (.int i) || _) = _
    have : eqV (.int n) (.int i) = decide (n = i) := by
      show (n == i) = _
      rw [Bool.eq_iff_iff, beq_iff_eq, decide_eq_true_iff]
    rw [this, Bool.eq_iff_iff, Bool.or_eq_true_iff, decide_eq_true_iff, decide_eq_true_iff, decide_eq_true_iff, List.mem_cons]
    constructor
    · rintro (h | h)
      · exact .inl h.symm
      · exact .inr h
    · rintro (h | h)
      · exact .inl h.symm
      · exact .inr h
theorem inV_strs {i : Str} {ns : List Str} : inV (.str i) (ns.map V.str) = decide (i ∈ ns) := by
  unfold inV
  induction ns with
  | nil => rfl
  | cons n r ih =>
    rw [List.map_cons, List.any_cons, ih]
    show (eqV (.str n) (.str i) || _) = _
    have : eqV (.str n) (.str i) = decide (n = i) := by
      show (n == i) = _
      rw [Bool.eq_iff_iff, beq_iff_eq, decide_eq_true_iff]
    rw [this, Bool.eq_iff_iff, Bool.or_eq_true_iff, decide_eq_true_iff, decide_eq_true_iff, decide_eq_true_iff, List.mem_cons]
    constructor
    · rintro (h | h)
      · exact .inl h.symm
      · exact .inr h
    · rintro (h | h)
      · exact .inl h.symm
      · exact .inr h
theorem flat_ints (ns : List Int) : (ns.map V.int).all flatV = true := by
  rw [List.all_map]
  exact List.all_eq_true.mpr fun _ _ => rfl
theorem flat_strs (ns : List Str) : (ns.map V.str).all flatV = true := by
  rw [List.all_map]
  exact List.all_eq_true.mpr fun _ _ => rfl
theorem DtAll.toStrs {B : Addr → Prop} : ∀ {ns : List Str} {vs : List V}, DtAll K B H vs (ns.map PyData.str) → vs = ns.map V.str
  | [], _, h => by
    cases h
    rfl
  | n :: ns, _, h => by
    cases h with
    | cons a h =>
      cases a
      rw [DtAll.toStrs h]
      rfl
theorem DtAll.strs {B : Addr → Prop} : ∀ (ns : List Str), DtAll K B H (ns.map V.str) (ns.map PyData.str)
  | [] => .nil
  | n :: ns => .cons (.str n) (DtAll.strs ns)
/-- a tuple or a list -/
inductive SeqD (ds : List PyData) : PyData → Prop
  | t : SeqD ds (.tuple ds)
  | l : SeqD ds (.list ds)
theorem Dt.toSeq {B : Addr → Prop} {v : V} {ds : List PyData} {d : PyData} (s : SeqD ds d) (h : Dt K B H v d) : ∃ a xs, v = .ref a ∧ (SqL K H a xs ∨ SqT K H a xs) ∧ DtAll K B H xs ds := by
  cases s with
  | t =>
    obtain ⟨a, xs, e, h1, h2⟩ := h.toTup
    exact ⟨a, xs, e, .inr h1, h2⟩
  | l =>
    obtain ⟨a, xs, e, h1, _, h2⟩ := h.toLst
    exact ⟨a, xs, e, .inl h1, h2⟩
theorem ed_inI {i : Int} {ns : List Int} (ha : EvD K ta σ H (.int i)) (hb : EvD K tb σ H d) (hs : SeqD (ns.map PyData.int) d) : EvD K (tOp (rIn K false) ta tb) σ H (.bool (decide (i ∈ ns))) := evd_op ha hb fun x y H1 _ hx hy Q q => by
  obtain ⟨a, xs, rfl, h1, h2⟩ := hy.toSeq hs
  obtain rfl := hx.toInt
  obtain rfl := h2.toInts
  refine ⟨a, _, rfl, h1, rfl, flat_ints ns, q _ H1 (Ex.refl H1) ?_⟩
  rw [inV_ints]
  exact .bl _
theorem ed_niI {i : Int} {ns : List Int} (ha : EvD K ta σ H (.int i)) (hb : EvD K tb σ H d) (hs : SeqD (ns.map PyData.int) d) : EvD K (tOp (rIn K true) ta tb) σ H (.bool (!decide (i ∈ ns))) := evd_op ha hb fun x y H1 _ hx hy Q q => by
  obtain ⟨a, xs, rfl, h1, h2⟩ := hy.toSeq hs
  obtain rfl := hx.toInt
  obtain rfl := h2.toInts
  refine ⟨a, _, rfl, h1, rfl, flat_ints ns, q _ H1 (Ex.refl H1) ?_⟩
  rw [inV_ints]
  exact .bl _
theorem ed_inS {i : Str} {ns : List Str} (ha : EvD K ta σ H (.str i)) (hb : EvD K tb σ H (.tuple (ns.map PyData.str))) : EvD K (tOp (rIn K false) ta tb) σ H (.bool (decide (i ∈ ns))) := evd_op ha hb fun x y H1 _ hx hy Q q => by
  obtain ⟨a, xs, rfl, h1, h2⟩ := hy.toTup
  obtain rfl := hx.toStr
  obtain rfl := h2.toStrs
  refine ⟨a, _, rfl, .inr h1, rfl, flat_strs ns, q _ H1 (Ex.refl H1) ?_⟩
  rw [inV_strs]
  exact .bl _
theorem ed_ixT {ds : List PyData} {i : Int} (ha : EvD K ta σ H (.tuple ds)) (hb : EvD K tb σ H (.int i)) (hi : atI ds i = some d) : EvD K (tOp (rIxT K) ta tb) σ H d := evd_ixT ha hb.i hi
theorem ed_ixL {ds : List PyData} {i : Int} (ha : EvD K ta σ H (.list ds)) (hb : EvD K tb σ H (.int i)) (hi : atI ds i = some d) : EvD K (tOp (rIxL K) ta tb) σ H d := evd_ixL ha hb.i hi
theorem ed_isi {b : Bool} {n : String} (ha : EvD K ta σ H d) (hk : kitB (tyD d) n = some b) : EvD K (tCB (rIsi K) (tCons ta (tCons (tC (.ty n)) tNil))) σ H (.bool b) := evd_b (ev_isi ha ev_c hk)
theorem ed_len {ds : List PyData} (ha : EvD K ta σ H d) (hs : SeqD ds d) : EvD K (tCB (fun xs H Q => ∃ p ys, xs = [.ref p] ∧ (SqL K H p ys ∨ SqT K H p ys) ∧ Q (.int ys.length) H) (tCons ta tNil)) σ H (.int (ds.length : Int)) := evd_i (by
  cases hs with
  | t => exact ev_lenT ha
  | l => exact ev_lenLD ha)
theorem ed_all {bs : List Bool} (ha : EvD K ta σ H (.list (bs.map PyData.bool))) : EvD K (tCB (rAll K) (tCons ta tNil)) σ H (.bool (bs.all id)) := evd_b (ev_all ha)
theorem ed_any {bs : List Bool} (ha : EvD K ta σ H (.list (bs.map PyData.bool))) : EvD K (tCB (rAny K) (tCons ta tNil)) σ H (.bool (bs.any id)) := evd_b (ev_any ha)
theorem ed_and {a b : Bool} (h1 : EvD K ta σ H (.bool a)) (h2 : a = true → EvD K tb σ H (.bool b)) : EvD K (tAndV ta tb) σ H (.bool (a && b)) := evd_b (ev_andV h1.b fun z => (h2 z).b)
theorem ed_or {a b : Bool} (h1 : EvD K ta σ H (.bool a)) (h2 : a = false → EvD K tb σ H (.bool b)) : EvD K (tOrV ta tb) σ H (.bool (a || b)) := evd_b (ev_orV h1.b fun z => (h2 z).b)
theorem ed_not {a : Bool} (h1 : EvD K ta σ H (.bool a)) : EvD K (tNotV ta) σ H (.bool (!a)) := evd_b (ev_notV h1.b)
theorem ed_chain {g g' : Int → Int → Bool} {i j k : Int} (ha : EvD K ta σ H (.int i)) (hb : EvD K tb σ H (.int j)) (hc : EvD K tc σ H (.int k)) :
    EvD K (tChain (rI0 fun i j => .bl (g i j)) (rI0 fun i j => .bl (g' i j)) ta tb tc) σ H (.bool (g i j && g' j k)) := evd_b (ev_chain ha.i hb.i hc.i)
theorem td_B {b : Bool} (h : EvD K te σ H (.bool b)) : EvT (tB te) σ H b := et_B h.b
theorem td_test {b : Bool} (h : EvD K te σ H (.bool b)) : EvT (tTest te) σ H b := et_test h.b
theorem ed_eqD (ha : EvD K ta σ H d) (hb : EvD K tb σ H e) (sd : SeqAt.shaped d = true) (se : SeqAt.shaped e = true) : EvD K (tOp (rEqD K) ta tb) σ H (.bool (PyData.eqv d e)) := evd_b (ev_eqD ha hb sd se)
theorem ed_neD (ha : EvD K ta σ H d) (hb : EvD K tb σ H e) (sd : SeqAt.shaped d = true) (se : SeqAt.shaped e = true) : EvD K (tOp (rNeD K) ta tb) σ H (.bool (!PyData.eqv d e)) := evd_b (ev_neD ha hb sd se)
theorem ed_max2 {i j : Int} (ha : EvD K ta σ H (.int i)) (hb : EvD K tb σ H (.int j)) : EvD K (tCB (fun xs H Q => ∃ i j, xs = [.int i, .int j] ∧ Q (.int (if j > i then j else i)) H) (tCons ta (tCons tb tNil))) σ H (.int (if j > i then j else i)) := evd_i (ev_max2 ha.i hb.i)
theorem ed_min2 {i j : Int} (ha : EvD K ta σ H (.int i)) (hb : EvD K tb σ H (.int j)) : EvD K (tCB (fun xs H Q => ∃ i j, xs = [.int i, .int j] ∧ Q (.int (if j < i then j else i)) H) (tCons ta (tCons tb tNil))) σ H (.int (if j < i then j else i)) := evd_i fun H1 e Q q =>
  ha.i H1 e _ fun H2 e2 => hb.i H2 (e.trans e2) _ fun H3 e3 => ⟨i, j, rfl, q H3 (e2.trans e3)⟩
theorem ed_int1 {i : Int} (ha : EvD K ta σ H (.int i)) : EvD K (tCB (fun xs H Q => (∃ i, xs = [.int i] ∧ Q (.int i) H) ∨ ∃ k, xs = [.bl k] ∧ Q (.int (if k then 1 else 0)) H) (tCons ta tNil)) σ H (.int i) := evd_i fun H1 e Q q => ha.i H1 e _ fun H2 e2 => .inl ⟨i, rfl, q H2 e2⟩
theorem ed_intB {b : Bool} (ha : EvD K ta σ H (.bool b)) : EvD K (tCB (fun xs H Q => (∃ i, xs = [.int i] ∧ Q (.int i) H) ∨ ∃ k, xs = [.bl k] ∧ Q (.int (if k then 1 else 0)) H) (tCons ta tNil)) σ H (.int (if b then 1 else 0)) := evd_i fun H1 e Q q => ha.b H1 e _ fun H2 e2 => .inr ⟨b, rfl, q H2 e2⟩
theorem ed_bool1 {i : Int} (ha : EvD K ta σ H (.int i)) : EvD K (tCB (fun xs H Q => (∃ i, xs = [.int i] ∧ Q (.bl (i != 0)) H) ∨ ∃ k, xs = [.bl k] ∧ Q (.bl k) H) (tCons ta tNil)) σ H (.bool (i != 0)) := evd_b fun H1 e Q q => ha.i H1 e _ fun H2 e2 => .inl ⟨i, rfl, q H2 e2⟩
/-- list(..), tuple(..) of a tuple, a list -/
theorem ed_list {ds : List PyData} (ha : EvD K ta σ H d) (hs : SeqD ds d) : EvD K (tCB (fun xs H Q => ∃ p ys, xs = [.ref p] ∧ (SqL K H p ys ∨ SqT K H p ys) ∧ ∀ l, H l = none → Q (.ref l) (upd H l (.lst ys))) (tCons ta tNil)) σ H (.list ds) := fun H1 e Q q =>
  ha H1 e _ fun x H2 c hx => by
    obtain ⟨a, xs, rfl, h1, h2⟩ := hx.toSeq hs
    exact ⟨a, xs, rfl, h1, fun l hl => q _ _ (c.trans (Ex.new hl)) (.lst upd_same (fun z => z) (h2.ex (Ex.new hl)))⟩
theorem evn_list {ds : List PyData} (ha : EvD K ta σ H d) (hs : SeqD ds d) : EvN K (tCB (fun xs H Q => ∃ p ys, xs = [.ref p] ∧ (SqL K H p ys ∨ SqT K H p ys) ∧ ∀ l, H l = none → Q (.ref l) (upd H l (.lst ys))) (tCons ta tNil)) σ H ds := fun H1 e Q q =>
  ha H1 e _ fun x H2 c hx => by
    obtain ⟨a, xs, rfl, h1, h2⟩ := hx.toSeq hs
    exact ⟨a, xs, rfl, h1, fun l hl => q l _ _ (fresh_back c hl) (c.trans (Ex.new hl)) upd_same (h2.ex (Ex.new hl))⟩
theorem evn_listRg {n : Nat} (ha : EvD K ta σ H (.int (n : Int))) (hz : n ≤ 40000) (dr : ∀ H2, DtAll K No H2 (rgV 0 (n : Int)) (rgD 0 n)) : EvN K (tLstRg (tRg1 ta)) σ H (rgD 0 n) := fun H1 e Q q =>
  ha.i H1 e _ fun H2 c => ⟨n, rfl, by unfold RgOk; omega, fun l hl => q l _ _ (fresh_back c hl) (c.trans (Ex.new hl)) upd_same (dr _)⟩
/-- + of lists, times -/
theorem evn_cat {ds es : List PyData} (ha : EvD K ta σ H (.list ds)) (hb : EvD K tb σ H (.list es)) (hz : ds.length + es.length ≤ 100000) : EvN K (tOp rCat ta tb) σ H (ds ++ es) := fun H1 e Q q =>
  ha H1 e _ fun x H2 c hx => hb H2 (e.trans c) _ fun y H3 c2 hy => by
    obtain ⟨a, xs, rfl, h1, _, h2⟩ := (hx.ex c2).toLm
    obtain ⟨b, ys, rfl, h3, _, h4⟩ := hy.toLm
    exact ⟨a, b, xs, ys, rfl, rfl, h1, h3, sz_of (by rw [h2.len, h4.len]; exact hz), fun p hp => q p _ _ (fresh_back (c.trans c2) hp) ((c.trans c2).trans (Ex.new hp)) upd_same ((h2.app h4).ex (Ex.new hp))⟩
theorem ed_tuple {ds : List PyData} (ha : EvD K ta σ H d) (hs : SeqD ds d) : EvD K (tCB (fun xs H Q => ∃ p ys, xs = [.ref p] ∧ ((SqL K H p ys ∧ ∀ l, H l = none → Q (.ref l) (upd H l (.tup ys))) ∨ (SqT K H p ys ∧ Q (.ref p) H))) (tCons ta tNil)) σ H (.tuple ds) := fun H1 e Q q =>
  ha H1 e _ fun x H2 c hx => by
    cases hs with
    | t =>
      obtain ⟨a, xs, rfl, h1, h2⟩ := hx.toTup
      exact ⟨a, xs, rfl, .inr ⟨h1, q _ H2 c hx⟩⟩
    | l =>
      obtain ⟨a, xs, rfl, h1, _, h2⟩ := hx.toLst
      exact ⟨a, xs, rfl, .inl ⟨h1, fun l hl => q _ _ (c.trans (Ex.new hl)) (.tup (SqT.of upd_same) (h2.ex (Ex.new hl)))⟩⟩
/-- list(range(n)), tuple(range(n)) -/
theorem rgV_len (n : Nat) : (rgV 0 (n : Int)).length = n := by
  simp [rgV]
theorem dt_rgV {B : Addr → Prop} (n : Nat) : DtAll K B H (rgV 0 (n : Int)) (rgD 0 n) := DtAll.of (by rw [rgV_len, rgD_len]) fun i v d h1 h2 => by
  have hi : i < n := by
    have := (List.getElem?_eq_some_iff.mp h2).1
    rwa [rgD_len] at this
  rw [rgD_get hi] at h2
  have e : (rgV 0 (n : Int))[i]? = some (.int ((0 : Int) + (i : Nat))) := by
    simp [rgV, hi]
  rw [e] at h1
  obtain rfl := Option.some.inj h1
  obtain rfl := Option.some.inj h2
  exact .int _
theorem ed_listRg {n : Nat} (ha : EvD K ta σ H (.int (n : Int))) (hz : n ≤ 40000) : EvD K (tLstRg (tRg1 ta)) σ H (.list (rgD 0 n)) := fun H1 e Q q =>
  ha.i H1 e _ fun H2 c => ⟨n, rfl, by unfold RgOk; omega, fun l hl => q _ _ (c.trans (Ex.new hl)) (.lst upd_same (fun z => z) (dt_rgV n))⟩
theorem ed_tupRg {n : Nat} (ha : EvD K ta σ H (.int (n : Int))) (hz : n ≤ 40000) : EvD K (tTupRg (tRg1 ta)) σ H (.tuple (rgD 0 n)) := fun H1 e Q q =>
  ha.i H1 e _ fun H2 c => ⟨n, rfl, by unfold RgOk; omega, fun l hl => q _ _ (c.trans (Ex.new hl)) (.tup (SqT.of upd_same) (dt_rgV n))⟩
/-- a starred place in a display -/
theorem ead_star {tr : TA} {ds es : List PyData} (h : EvD K te σ H d) (hs : SeqD ds d) (hr : EvAD K tr σ H es) : EvAD K (StX.tStar K te tr) σ H (ds ++ es) := fun H1 a _ q =>
  h H1 a _ fun v H2 b hd => by
    obtain ⟨p, xs, rfl, h1, h2⟩ := hd.toSeq hs
    exact ⟨p, xs, rfl, h1.symm, hr H2 (a.trans b) _ fun vs H3 c hx => q _ H3 (b.trans c) ((h2.ex c).app hx)⟩
/-- bounds of a slice -/
theorem eod_some {i : Int} (h : EvD K te σ H (.int i)) : EvO (tPart te) σ H (some i) := eo_some h.i
end
end SB
end

section
set_option Elab.async false
set_option linter.all false
set_option maxRecDepth 100000
set_option maxHeartbeats 2000000
set_option pp.maxSteps 200
set_option autoImplicit false
/-! SbDc: dict comprehensions whose keys are ints, texts or tuples of those; a sequence of either kind to go over. -/
namespace SB
open PySem PySem.Spec PyProof.Rows L2 Evl

section
variable {X : Cx} {pins : List (Addr × Obj)} {σ : L2.St} {H : Hp} {s : Shared}
/-- a comprehension puts a pair, by either kind of key -/
theorem put_pair {H' : Hp} {E : Value → Shared → Prop} {D : Addr} {y v : V} {u r : Value} {Q : Unit → Shared → Prop} (hu : X.A.units + 1 < cLine) (I : Inv X pins σ H s) (g : DPut H D y v H') (ry : RelV y u) (rv : RelV v r)
    (h : ∀ s', Inv X pins σ H' s' → Q () s') : wpAny (model X.prog X.w) X.A (dictSet D u r) Q E s := by
  rcases g with ⟨kvs, k, e, ey, l, eH⟩ | ⟨kvs, k, b, e, ey, eb, l, eH⟩
  · subst ey eH
    exact d_dictSet I e l ry rv h
  · subst ey eH
    obtain rfl : u = Value.ref b := ry
    obtain ⟨z, nd, xs, rel, dd⟩ := dt_of I.hok e
    have zx : xs.length ≤ sizeLine := by
      rw [← Paired.length rel]
      exact z
    have zp : (putK kvs k v).length ≤ sizeLine := by
      have := length_putK kvs k v
      omega
    have room : (tupleKind (mixKind X.prog X.w)).room X.A := Nat.lt_of_succ_lt hu
    refine wpAny_dictSet_heap (hsz := zx) room (key_of I.hok eb) dd fun h' dd' same => h _ ?_
    obtain ⟨q, es, ep, hq, h2, h3, h4, _, h5⟩ := dd'
    refine d_write I (by rw [e]; exact True.intro) same ⟨q, hq⟩ ⟨zp, nd, _, (rel.put k eb rv).keeps fun c ys ec => ?_, q, es, ep, hq, h2, h3, h4, h5⟩
    rw [upd_ne (ne_of ec e fun z => nomatch z)]
    exact ec
end
section
variable {X : Cx}
/-- the reading: D the new dict, of either kind -/
def tDcA (wi : TI) (g : TG) (tt : TT) (tk tv : TE) (vs : List Nat) : TE := fun σ H Q => wi σ H fun J H1 => ∃ D0, (D0 = .dK [] ∨ D0 = .dT []) ∧ ∀ D, H1 D = none → ∃ W : Nat → Nat → Hp → Prop, (∃ m, W 0 m (upd H1 D D0)) ∧ ∀ i m H, W i m H →
  (J.stop i H ∧ Q (.ref D) H) ∨ (J.go i H ∧ ∃ Nx : Hp → Prop, (∀ H', Nx H' → ∃ m', m' < m ∧ W (i + 1) m' H') ∧ ∀ x H', J.yld i H x H' → g x (wipe σ vs) H' fun σ2 H2 => wipe σ2 vs = wipe σ vs ∧ tt σ2 H2 fun b H3 =>
    if b = true then tk σ2 H3 fun y H4 => tv σ2 H4 fun z H5 => ∃ H6, DPut H5 D y z H6 ∧ Nx H6 else Nx H3)
theorem pe_dcA {kx vx tg iter : Expr} {ifs : List Expr} {scope : Scope} {own : List (Str × Nat)} {pos : Pos} {wi : TI} {g : TG} {tt : TT} {tk tv : TE} (hu : X.A.units + 1 < cLine) (hc : X.calm = true) (hN : X.N.Nodup) (hi : PI X tg iter wi) (ok : BlkOk X.N X.env.scope scope own)
    (hg : ∀ (s : Shared) (H : Hp) (C : Addr) (cl : List (Str × Addr)) (fp : List Addr), PG (X.blk s H scope (compEnvC scope cl C X.env) fp) tg g) (ht : ∀ (s : Shared) (H : Hp) (C : Addr) (cl : List (Str × Addr)) (fp : List Addr), PTs (X.blk s H scope (compEnvC scope cl C X.env) fp) ifs tt)
    (hk : ∀ (s : Shared) (H : Hp) (C : Addr) (cl : List (Str × Addr)) (fp : List Addr), PE (X.blk s H scope (compEnvC scope cl C X.env) fp) kx tk)
    (he : ∀ (s : Shared) (H : Hp) (C : Addr) (cl : List (Str × Addr)) (fp : List Addr), PE (X.blk s H scope (compEnvC scope cl C X.env) fp) vx tv) (hs : ∀ x, foldedSetIterable iter X.env x = pure x := by intro _; rfl) :
    PE X (.DictComp kx vx [⟨tg, iter, ifs, 0⟩] scope pos) (tDcA wi g tt tk tv (own.map (·.2))) := by
  refine ⟨fun pins s σ H Q I h => ?_⟩
  rw [arm_eval_DictComp]
  have closes : ∀ y ∈ scope.names, y.2 = .free → ∃ c, X.env.cells.lookup y.1 = some c := fun y hy e => by
    rcases ok.free y hy e with k | k
    · exact I.ok.has _ (.inl k)
    · exact I.ok.has _ (.inr k)
  refine wpAny_comprehension_free (use := none) rfl hs (closure_ok closes) ok.kind (fun y hy e => by rw [ok.uniq y hy, e]) (thn (hi.run pins s σ H _ I h) fun xv s1 hx => thn hx fun itv s2 h2 => ?_)
  obtain ⟨it, fp, tn, J, H2, rfl, I2, T, st2, f2, D0, kind, q⟩ := h2
  refine wpAny_newObj_type (newEnv_comp ?_)
  obtain ⟨D, hD⟩ : ∃ D, s2.heap.objs.size = D := ⟨_, rfl⟩
  have fresh : H2 D = none := I2.hok.fresh (Nat.le_of_eq hD)
  obtain ⟨W, ⟨m0, w0⟩, turn⟩ := q D fresh
  obtain ⟨s3, e3⟩ : ∃ s3 : Shared, ({ s2 with heap := s2.heap.push { cls := .type "dict", data := .dict #[] } } : Shared) = s3 := ⟨_, rfl⟩
  have I3 : Inv X pins σ (upd H2 D D0) s3 := by
    rw [← e3]
    refine I2.laid (t' := s2.toks) (fun b o e => Heap.get?_push_of_some _ e) (Nat.le_of_eq hD) ?_
    rw [← hD]
    rcases kind with rfl | rfl
    · exact dk_empty s2.heap I2.big
    · exact dt_empty s2.heap I2.big
  have h3 : s3.heap = s2.heap.push { cls := .type "dict", data := .dict #[] } := by rw [← e3]
  have low : ∀ b ∈ fp, b < s2.heap.objs.size := fun b hb => by
    obtain ⟨o, e, _⟩ := T.obj _ _ st2 b hb
    exact Heap.lt_size e
  have f3 : ∀ b ∈ fp, FpOk X pins (upd H2 D D0) b ∧ b < s3.heap.objs.size := fun b hb => by
    have lt := low b hb
    refine ⟨⟨?_, (f2 b hb).2⟩, by rw [h3, Heap.size_push]; exact Nat.lt_succ_of_lt lt⟩
    rw [upd_ne (by rw [← hD]; exact Nat.ne_of_lt lt)]
    exact (f2 b hb).1
  have st3 : tn 0 s3.heap := T.keep _ _ _ st2 fun b _ o e => by
    rw [h3]
    exact Heap.get?_push_of_some _ e
  have I4 := block_start I3 ok hN f3
  rw [hD, e3]
  generalize ecl : cellsFrom (s3.heap.objs.size + 1) scope.names (cloFrom X.env.cells scope.names []) = cl at I4 ⊢
  have pg := hg s3 (upd H2 D D0) s3.heap.objs.size cl fp
  have pt := ht s3 (upd H2 D D0) s3.heap.objs.size cl fp
  have pk := hk s3 (upd H2 D D0) s3.heap.objs.size cl fp
  have pe := he s3 (upd H2 D D0) s3.heap.objs.size cl fp
  have nfp : ∀ b ∈ fp, (upd H2 D D0) b = none := fun b hb => (f3 b hb).1.1
  obtain ⟨ce, ece⟩ : ∃ ce, compEnvC scope cl s3.heap.objs.size X.env = ce := ⟨_, rfl⟩
  rw [ece] at I4 pg pt pk pe
  have cL : ce.locals = s3.heap.objs.size := by
    subst ece
    rfl
  obtain ⟨H3, eH3⟩ : ∃ H3, upd H2 D D0 = H3 := ⟨_, rfl⟩
  rw [eH3] at I3 I4 pg pt pk pe w0 nfp f3
  obtain ⟨s4, e4⟩ : ∃ s4 : Shared, ({ s3 with heap := pushCells (s3.heap.push { cls := .type "dict", data := .dict #[] }) scope.names } : Shared) = s4 := ⟨_, rfl⟩
  rw [e4] at I4
  have st4 : tn 0 s4.heap := T.keep _ _ _ st3 fun b _ o e => by
    rw [← e4]
    exact pushCells_keeps _ _ _ _ (Heap.get?_push_of_some _ e)
  show codeAny _ _ (.compStart (.DictComp kx vx [⟨tg, iter, ifs, 0⟩] scope pos) 0 (.ref it) (.ref D) (compEnvC scope cl s3.heap.objs.size X.env)) (compPost (model X.prog X.w) X.A X.xe none _ (.ref D) s3.heap.objs.size) ({ s3 with heap := pushCells (s3.heap.push { cls := .type "dict", data := .dict #[] }) scope.names } : Shared)
  rw [ece, e4]
  generalize hR : compPost (model X.prog X.w) X.A X.xe none _ (.ref D) s3.heap.objs.size = R
  have stat : ∀ {σ' : L2.St} {H' : Hp} {s' : Shared}, Inv (X.blk s3 H3 scope ce fp) [] σ' H' s' → (∀ b ∈ fp, H' b = none) → ∀ b ∈ fp, FpOk (X.blk s3 H3 scope ce fp) [] H' b := fun {σ' H' s'} I' hn b hb =>
    ⟨hn b hb, (I'.ok.exf b hb).1, I'.ok.exfs b hb, .inl hb, fun x c e => (I'.ok.exf b hb).2 x c e, fun p hp => absurd (show p ∈ ([] : List (Addr × Obj)) ++ [] from hp) (by simp)⟩
  suffices loop : codeAny (model X.prog X.w) X.A (.compLoop (.DictComp kx vx [⟨tg, iter, ifs, 0⟩] scope pos) 0 (.ref it) (.ref D) ce) R s4 from codeAny_compStart_dict loop (T.self X.A 0 _ _ _ st4 loop)
  refine compLoop_anyD (fun n s' => ∃ i H', Inv (X.blk s3 H3 scope ce fp) [] (wipe σ (own.map (·.2))) H' s' ∧ tn i s'.heap ∧ (∀ b ∈ fp, H' b = none) ∧ W i n H') ?_ m0 ⟨0, H3, I4, st4, nfp, w0⟩
  rintro n s5 ⟨i, H5, I5, st5, n5, w5⟩
  rcases turn i n H5 w5 with ⟨stop, qq⟩ | ⟨go, Nx, down, step⟩
  · refine thnF (T.done (X.blk s3 H3 scope ce fp) rfl rfl rfl hc i [] s5 _ H5 (fun _ _ => False) I5 (stat I5 n5) st5 stop) fun r s6 ⟨hr, I6⟩ => ?_
    subst hr hR
    have I7 : Inv X pins σ H5 s6 := I3.call' (ch := fp) I6.os I6.base I6.hok I6.bare fun b hb => ⟨(f3 b hb).1.2.2.2.1, (f3 b hb).1.2.1, (f3 b hb).1.2.2.2.2.1, (f3 b hb).1.2.2.2.2.2⟩
    have nC : H5 s3.heap.objs.size = none := by
      have z : H5 ce.locals = none := I6.free
      rw [cL] at z
      exact z
    obtain ⟨m, hn, _⟩ := I6.loc
    have hn : s6.heap.Ns ce.locals m := hn
    rw [cL] at hn
    obtain ⟨f0, f1, f2', f3', f4, f5⟩ := I3.fpOk (Nat.le_refl _) nC
    exact ⟨m, hn, fun h'' sb => ⟨.ref D, H5, I7.turned (t' := s6.toks) (fun b o hb e => (sb.2 b hb).trans e) nC f1 f3' f4 f5, rfl, qq⟩⟩
  · refine thnF (T.item (X.blk s3 H3 scope ce fp) rfl rfl rfl hc i [] s5 _ H5 (fun _ _ => False) I5 (stat I5 n5) st5 go) fun r s6 ⟨u, hr, h6⟩ => ?_
    subst hr
    refine thnF h6 fun _ s7 ⟨x, H7, I7, r7, y7, st7, n7⟩ => ?_
    have J7 := I7.pinned (stat I7 n7) (T.obj _ _ st7)
    refine thnF (pg.run _ s7 _ H7 x u _ J7 r7 (step x H7 y7)) fun _ s8 ⟨σ8, H8, I8, hw8, q8⟩ => ?_
    refine thnF (pt.run _ s8 σ8 H8 _ I8 q8) fun b s9 ⟨H9, I9, q9⟩ => ?_
    have fin : ∀ {s' : Shared} {H' : Hp}, Inv (X.blk s3 H3 scope ce fp) ([] ++ pinsAt fp s7.heap) σ8 H' s' → Nx H' → ∃ m, m < n ∧ ∃ i H', Inv (X.blk s3 H3 scope ce fp) [] (wipe σ (own.map (·.2))) H' s' ∧ tn i s'.heap ∧ (∀ b ∈ fp, H' b = none) ∧ W i m H' := fun {s' H'} I' nx => by
      obtain ⟨m', hm, w'⟩ := down H' nx
      have kept : ∀ b ∈ fp, ∀ o, s7.heap.get? b = some o → s'.heap.get? b = some o ∧ H' b = none := fun b hb o e =>
        let z := I'.pin (b, o) (List.mem_append_right _ (List.mem_append_right _ (mem_pinsAt hb e)))
        ⟨z.1, z.2.1⟩
      have hl : (wipe σ (own.map (·.2))).length = σ8.length := by rw [← hw8, wipe_length]
      refine ⟨m', hm, i + 1, H', (I'.unpinned (pins := [])).weak hl (fun j v e => ?_), T.keep _ _ _ st7 fun b hb o e => (kept b hb o e).1, fun b hb => ?_, w'⟩
      · rw [← hw8] at e
        exact (wipe_some e).1
      · obtain ⟨o, e, _⟩ := T.obj _ _ st7 b hb
        exact (kept b hb o e).2
    cases b with
    | false =>
      simp only [Bool.false_eq_true, if_false] at q9 ⊢
      exact fin I9 q9
    | true =>
      simp only [if_true] at q9 ⊢
      refine thnF (pk.run _ s9 σ8 H9 _ I9 q9) fun z s10 ⟨yk, H10, I10, r10, q10⟩ => ?_
      refine thnF (pe.run _ s10 σ8 H10 _ I10 q10) fun z2 s11 ⟨yv, H11, I11, r11, H12, put, nx⟩ => ?_
      exact put_pair (X := X.blk s3 H3 scope ce fp) hu I11 put r10 r11 fun s12 I12 => fin I12 nx
end

/-! ### a tuple or a list, whichever -/
def iSeq (K : PySem.W.Frag) (te : TE) : TI := fun σ H R => iList K te σ H R ∨ iTup K te σ H R
theorem pi_seq {X : Cx} {tg e : Expr} {te : TE} (h : PE X e te) : PI X tg e (iSeq X.K te) := ⟨fun pins s σ H R I q => by
  rcases q with q | q
  · exact (pi_list h).run pins s σ H R I q
  · exact (pi_tup h).run pins s σ H R I q⟩
/-- len of a dict of either kind -/
def rLenA : List V → Hp → VK → Prop := fun vs H Q => ∃ a, vs = [.ref a] ∧ ((∃ kvs : List (Key × V), H a = some (.dK kvs) ∧ Q (.int (kvs.length : Int)) H) ∨ ∃ kvs : List (List Key × V), H a = some (.dT kvs) ∧ Q (.int (kvs.length : Int)) H)
theorem call_lenA {X : Cx} : CallR X (.builtin "len") rLenA := by
  intro pins s σ H vs us Q I r h
  obtain ⟨a, rfl, h⟩ := h
  obtain ⟨u, rfl, rx⟩ := vals1 r
  obtain rfl : u = Value.ref a := rx
  rcases h with ⟨kvs, e, q⟩ | ⟨kvs, e, q⟩
  · exact d_len I (.inl e) fun t s' I' => ⟨.int kvs.length, H, I', ⟨t, rfl⟩, q⟩
  · obtain ⟨z, nd, xs, rel, dd⟩ := dt_of I.hok e
    have hl : kvs.length = xs.length := Paired.length rel
    refine call_len_dictH nd dd (by rw [← hl]; rw [sizeLine_eq] at z; omega) ⟨.int kvs.length, H, I.tok _, ⟨s.toks + 1, by rw [hl]⟩, q⟩
end SB
end

section
set_option Elab.async false
set_option linter.all false
set_option maxRecDepth 100000
set_option maxHeartbeats 2000000
set_option autoImplicit false
/-! SbU: are_unlike: as many keys as items. -/
namespace SB
open PySem PySem.Spec PyProof.Rows L2 Evl
abbrev s_are_unlike : Stmt := topS 25
abbrev N_are_unlike : List Str := ["some", "one"]
theorem sc_are_unlike : FnScope N_are_unlike ["some"] (C8.fnScope s_are_unlike) := C8.fnScope_by (by decide +kernel)
section
variable {κ : Type} [DecidableEq κ]
/-- the dict of the keys ahead -/
structure Uq (ks : List κ) (kvs : List (κ × V)) : Prop where
  mem : ∀ k, (valV kvs k).isSome = true ↔ k ∈ ks
  le : kvs.length ≤ ks.length
  eq : kvs.length = ks.length ↔ ks.Nodup
theorem Uq.nil : Uq ([] : List κ) [] := ⟨fun k => by simp [valV], Nat.le_refl _, by simp⟩
theorem len_putK_old {kvs : List (κ × V)} {k : κ} {v : V} (h : (valV kvs k).isSome = true) : (putK kvs k v).length = kvs.length := by
  unfold putK
  have e : (kvs.any fun kv => decide (kv.1 = k)) = true := by
    unfold valV at h
    rw [Option.isSome_map, List.find?_isSome] at h
    rw [List.any_eq_true]
    exact h
  rw [if_pos e, List.length_map]
theorem Uq.put {ks : List κ} {kvs : List (κ × V)} (u : Uq ks kvs) (k : κ) (v : V) : Uq (ks ++ [k]) (putK kvs k v) := by
  have nd : (ks ++ [k]).Nodup ↔ ks.Nodup ∧ k ∉ ks := by
    rw [List.nodup_append]
    constructor
    · rintro ⟨h1, _, h3⟩
      exact ⟨h1, fun hk => h3 k hk k (List.mem_singleton.mpr rfl) rfl⟩
    · rintro ⟨h1, h2⟩
      exact ⟨h1, List.nodup_cons.mpr ⟨List.not_mem_nil, List.nodup_nil⟩, fun a ha b hb e => h2 (by
        rw [List.mem_singleton] at hb
        rw [← hb, ← e]
        exact ha)⟩
  refine ⟨fun j => ?_, ?_, ?_⟩
  · rw [valV_put]
    by_cases e : j = k
    · rw [if_pos e, e]
      simp
    · rw [if_neg e, u.mem j]
      simp [e]
  · have := length_putK kvs k v
    have := u.le
    rw [List.length_append]
    show _ ≤ _ + 1
    omega
  · rw [nd, List.length_append]
    show _ = _ + 1 ↔ _
    cases h : valV kvs k with
    | none =>
      have hn : k ∉ ks := fun hk => by
        have := (u.mem k).mpr hk
        rw [h] at this
        cases this
      rw [putK_new v h, List.length_append]
      show _ + 1 = _ + 1 ↔ _
      rw [Nat.add_right_cancel_iff, u.eq]
      exact ⟨fun z => ⟨z, hn⟩, fun z => z.1⟩
    | some w =>
      have hs : (valV kvs k).isSome = true := by rw [h]; rfl
      rw [len_putK_old hs]
      have := u.le
      refine ⟨fun z => by omega, fun z => absurd ((u.mem k).mp hs) z.2⟩
end
section
variable {K : PySem.W.Frag} {σ : L2.St} {H H' : Hp} {te : TE}
/-- a new tuple of ints and texts -/
def TupK (H : Hp) (v : V) (k : List Key) : Prop := ∃ b, v = .ref b ∧ H b = some (.tup (k.map kV))
theorem TupK.ex {v : V} {k : List Key} (h : TupK H v k) (e : Ex H H') : TupK H' v k := let ⟨b, e1, h1⟩ := h; ⟨b, e1, e b _ h1⟩
/-- places of xs are keys ks: ints, or new tuples -/
def IntsV (xs : List V) (ks : List Key) : Prop := xs = ks.map kV
def TupsV (H : Hp) (xs : List V) (ks : List (List Key)) : Prop := xs.length = ks.length ∧ ∀ (i : Nat) (x : V) (k : List Key), xs[i]? = some x → ks[i]? = some k → TupK H x k
def SqS (K : PySem.W.Frag) (H : Hp) (a : Addr) (xs : List V) : Prop := SqL K H a xs ∨ SqT K H a xs
theorem SqS.ex {a : Addr} {xs : List V} (h : SqS K H a xs) (e : Ex H H') : SqS K H' a xs := h.elim (fun h => .inl (ex_l e h)) fun h => .inr (ex_t e h)
theorem iseq_of {a : Addr} {xs : List V} {R : It → Hp → Prop} (hs : SqS K H a xs) (h : Ev te σ H (.ref a)) (hl : ∀ H1, Ex H H1 → SqL K H1 a xs → R (Itl K a) H1) (ht : ∀ H1, Ex H H1 → SqT K H1 a xs → R (Itt K a) H1) : iSeq K te σ H R := by
  rcases hs with hs | hs
  · exact .inl (h H (Ex.refl H) _ fun H1 e => ⟨a, rfl, ⟨xs, ex_l e hs⟩, hl H1 e (ex_l e hs)⟩)
  · exact .inr (h H (Ex.refl H) _ fun H1 e => ⟨a, rfl, ⟨xs, ex_t e hs⟩, ht H1 e (ex_t e hs)⟩)
/-- what is asked of the way over xs -/
structure Way (J : It) (xs : List V) (H1 : Hp) : Prop where
  go : ∀ i H, Ex H1 H → i < xs.length → J.go i H
  yld : ∀ i H x H', Ex H1 H → J.yld i H x H' → H' = H ∧ xs[i]? = some x
  stop : ∀ H, Ex H1 H → J.stop xs.length H
theorem Way.l {a : Addr} {xs : List V} {H1 : Hp} (h : SqL K H1 a xs) : Way (Itl K a) xs H1 := ⟨fun i H e hi => ⟨xs, xs[i], ex_l e h, by simp [hi]⟩, fun i H x H' e y => ⟨y.1, y.2 xs (ex_l e h)⟩, fun H e => ⟨xs, ex_l e h, Nat.le_refl _⟩⟩
theorem Way.t {a : Addr} {xs : List V} {H1 : Hp} (h : SqT K H1 a xs) : Way (Itt K a) xs H1 := ⟨fun i H e hi => ⟨xs, xs[i], ex_t e h, by simp [hi]⟩, fun i H x H' e y => ⟨y.1, y.2 xs (ex_t e h)⟩, fun H e => ⟨xs, ex_t e h, Nat.le_refl _⟩⟩
theorem dc_way {J : It} {xs : List V} {g : TG} {tt : TT} {tk tv : TE} {vs : List Nat} {H1 : Hp} {D : Addr} {D0 : HO} {Qd : Hp → Prop} (wy : Way J xs H1) (Pv : Nat → Hp → Prop) (hx : ∀ i H, Pv i H → Ex H1 H) (h0 : Pv 0 (upd H1 D D0))
    (hs : ∀ i x H, xs[i]? = some x → Pv i H → g x (wipe σ vs) H fun σ2 H2 => wipe σ2 vs = wipe σ vs ∧ tt σ2 H2 fun b H3 =>
      if b = true then tk σ2 H3 fun y H4 => tv σ2 H4 fun z H5 => ∃ H6, DPut H5 D y z H6 ∧ Pv (i + 1) H6 else Pv (i + 1) H3) (hd : ∀ H, Pv xs.length H → Qd H) :
    ∃ W : Nat → Nat → Hp → Prop, (∃ m, W 0 m (upd H1 D D0)) ∧ ∀ i m H, W i m H →
      (J.stop i H ∧ Qd H) ∨ (J.go i H ∧ ∃ Nx : Hp → Prop, (∀ H', Nx H' → ∃ m', m' < m ∧ W (i + 1) m' H') ∧ ∀ x H', J.yld i H x H' → g x (wipe σ vs) H' fun σ2 H2 => wipe σ2 vs = wipe σ vs ∧ tt σ2 H2 fun b H3 =>
        if b = true then tk σ2 H3 fun y H4 => tv σ2 H4 fun z H5 => ∃ H6, DPut H5 D y z H6 ∧ Nx H6 else Nx H3) := by
  refine ⟨fun i m H => m = xs.length - i ∧ i ≤ xs.length ∧ Pv i H, ⟨xs.length, by simp, Nat.zero_le _, h0⟩, ?_⟩
  rintro i m H ⟨rfl, hi, p⟩
  by_cases hlt : i < xs.length
  · refine .inr ⟨wy.go i H (hx i H p) hlt, Pv (i + 1), fun H' p' => ⟨xs.length - (i + 1), by omega, rfl, hlt, p'⟩, fun x H' y => ?_⟩
    obtain ⟨rfl, ex⟩ := wy.yld i H x H' (hx i H p) y
    exact hs i x _ ex p
  · have e : i = xs.length := by omega
    subst e
    exact .inl ⟨wy.stop H (hx _ H p), hd H p⟩
end
section
variable {κ : Type} [DecidableEq κ]
def dkv (v : V) (ks : List κ) : List (κ × V) := ks.foldl (fun acc k => putK acc k v) []
theorem dkv_snoc (v : V) (ks : List κ) (k : κ) : dkv v (ks ++ [k]) = putK (dkv v ks) k v := by
  unfold dkv
  rw [List.foldl_append]
  rfl
theorem uq_dkv (v : V) (ks : List κ) : Uq ks (dkv v ks) := by
  suffices h : ∀ n (ks : List κ), ks.length = n → Uq ks (dkv v ks) from h _ ks rfl
  intro n
  induction n with
  | zero =>
    intro ks e
    obtain rfl := List.length_eq_zero_iff.mp e
    exact Uq.nil
  | succ n ih =>
    intro ks e
    have hne : ks ≠ [] := by
      rintro rfl
      cases e
    have h := ih ks.dropLast (by rw [List.length_dropLast, e]; rfl)
    have e2 := List.dropLast_concat_getLast hne
    rw [← e2, dkv_snoc]
    exact h.put _ v
theorem take_len {α : Type} {l : List α} : l.take l.length = l := List.take_length
end
section
variable {K : PySem.W.Frag} {σ : L2.St} {H H' : Hp} {te : TE}
theorem wipe1 {j : Nat} {x : V} : wipe ((wipe σ [j]).set j (some x)) [j] = wipe σ [j] := by
  show ((σ.set j none).set j (some x)).set j none = σ.set j none
  rw [List.set_set, List.set_set]
theorem wipe_at {j : Nat} {x : V} (hj : j < σ.length) : ((wipe σ [j]).set j (some x))[j]? = some (some x) := by
  show ((σ.set j none).set j (some x))[j]? = some (some x)
  rw [List.set_set]
  simp [hj]
theorem ev_lenA {a : Addr} {xs : List V} {n : Nat} {j : Nat} {ts : TE} {v : V} (hs : SqS K H a xs) (h : Ev ts σ H (.ref a)) (D0 : HO) (hD0 : D0 = .dK [] ∨ D0 = .dT []) (Pv : Addr → Hp → Nat → Hp → Prop) (hx : ∀ D H1 i H, Pv D H1 i H → Ex H1 H)
    (h0 : ∀ D H1, Ex H H1 → H1 D = none → Pv D H1 0 (upd H1 D D0)) (hst : ∀ D H1 i x H2, Ex H H1 → xs[i]? = some x → Pv D H1 i H2 → ∃ H3, DPut H2 D x v H3 ∧ Pv D H1 (i + 1) H3)
    (hl : ∀ D H1 H2, Ex H H1 → Pv D H1 xs.length H2 → (∃ kvs : List (Key × V), H2 D = some (.dK kvs) ∧ kvs.length = n) ∨ ∃ kvs : List (List Key × V), H2 D = some (.dT kvs) ∧ kvs.length = n) (hj : j < σ.length) :
    Ev (tCB rLenA (tCons (tDcA (iSeq K ts) (gName j) tYes (tVar j) (tC v) [j]) tNil)) σ H (.int (n : Int)) := by
  intro H0 e0 Q q
  have main : ∀ (J : It) (H1 : Hp), Ex H0 H1 → Way J xs H1 → ∃ D0, (D0 = .dK [] ∨ D0 = .dT []) ∧ ∀ D, H1 D = none → ∃ W : Nat → Nat → Hp → Prop, (∃ m, W 0 m (upd H1 D D0)) ∧ ∀ i m H, W i m H →
      (J.stop i H ∧ rLenA [.ref D] H Q) ∨ (J.go i H ∧ ∃ Nx : Hp → Prop, (∀ H', Nx H' → ∃ m', m' < m ∧ W (i + 1) m' H') ∧ ∀ x H', J.yld i H x H' → gName j x (wipe σ [j]) H' fun σ2 H2 => wipe σ2 [j] = wipe σ [j] ∧ tYes σ2 H2 fun b H3 =>
        if b = true then tVar j σ2 H3 fun y H4 => tC v σ2 H4 fun z H5 => ∃ H6, DPut H5 D y z H6 ∧ Nx H6 else Nx H3) := fun J H1 e1 wy =>
    ⟨D0, hD0, fun D hD => dc_way wy (Pv D H1) (hx D H1) (h0 D H1 (e0.trans e1) hD) (fun i x H2 hi p => ⟨wipe1, x, wipe_at hj, hst D H1 i x H2 (e0.trans e1) hi p⟩) fun H2 p => by
      refine ⟨D, rfl, ?_⟩
      have e2 := hx D H1 _ H2 p
      rcases hl D H1 H2 (e0.trans e1) p with ⟨kvs, hk, en⟩ | ⟨kvs, hk, en⟩
      · refine .inl ⟨kvs, hk, ?_⟩
        rw [en]
        exact q H2 (e1.trans e2)
      · refine .inr ⟨kvs, hk, ?_⟩
        rw [en]
        exact q H2 (e1.trans e2)⟩
  exact iseq_of (hs.ex e0) (h.mono e0) (fun H1 e1 hl => main _ H1 e1 (Way.l hl)) fun H1 e1 hl => main _ H1 e1 (Way.t hl)
/-- len({one: .. for one in some}), the items ints -/
theorem len_int {a : Addr} {xs : List V} {ks : List Key} {j : Nat} {ts : TE} {v : V} (hs : SqS K H a xs) (hk : IntsV xs ks) (hz : xs.length ≤ 40000) (h : Ev ts σ H (.ref a)) (hj : j < σ.length) :
    Ev (tCB rLenA (tCons (tDcA (iSeq K ts) (gName j) tYes (tVar j) (tC v) [j]) tNil)) σ H (.int ((dkv v ks).length : Int)) := by
  have hl : xs.length = ks.length := by rw [hk, List.length_map]
  refine ev_lenA hs h (.dK []) (.inl rfl) (fun D H1 i H2 => H1 D = none ∧ Ex H1 H2 ∧ H2 D = some (.dK (dkv v (ks.take i)))) (fun D H1 i H2 p => p.2.1) (fun D H1 e hD => ⟨hD, Ex.new hD, upd_same⟩) (fun D H1 i x H2 e hi p => ?_) (fun D H1 H2 e p => .inl ⟨_, p.2.2, by rw [hl, take_len]⟩) hj
  rw [hk, List.getElem?_map, Option.map_eq_some_iff] at hi
  obtain ⟨k, hki, rfl⟩ := hi
  have hlt := (List.getElem?_eq_some_iff.mp hki).1
  refine ⟨_, DPut.k p.2.2 (sz_lt ?_), p.1, Ex.mut p.2.1 p.1, ?_⟩
  · have := (uq_dkv v (ks.take i)).le
    rw [List.length_take] at this
    omega
  · rw [take_snoc hki, dkv_snoc]
    exact upd_same
theorem len_tup {a : Addr} {xs : List V} {ks : List (List Key)} {j : Nat} {ts : TE} {v : V} (hs : SqS K H a xs) (hk : TupsV H xs ks) (hz : xs.length ≤ 40000) (h : Ev ts σ H (.ref a)) (hj : j < σ.length) :
    Ev (tCB rLenA (tCons (tDcA (iSeq K ts) (gName j) tYes (tVar j) (tC v) [j]) tNil)) σ H (.int ((dkv v ks).length : Int)) := by
  have hl : xs.length = ks.length := hk.1
  refine ev_lenA hs h (.dT []) (.inr rfl) (fun D H1 i H2 => H1 D = none ∧ Ex H1 H2 ∧ H2 D = some (.dT (dkv v (ks.take i)))) (fun D H1 i H2 p => p.2.1) (fun D H1 e hD => ⟨hD, Ex.new hD, upd_same⟩) (fun D H1 i x H2 e hi p => ?_) (fun D H1 H2 e p => .inr ⟨_, p.2.2, by rw [hl, take_len]⟩) hj
  have hlt : i < ks.length := by
    rw [← hl]
    exact (List.getElem?_eq_some_iff.mp hi).1
  have hki : ks[i]? = some ks[i] := by simp [hlt]
  obtain ⟨b, rfl, hb⟩ := (hk.2 i x _ hi hki).ex (e.trans p.2.1)
  refine ⟨_, DPut.t p.2.2 hb (sz_lt ?_), p.1, Ex.mut p.2.1 p.1, ?_⟩
  · have := (uq_dkv v (ks.take i)).le
    rw [List.length_take] at this
    omega
  · rw [take_snoc hki, dkv_snoc]
    exact upd_same
end
section
variable {P : Program} {w : World} {K : PySem.W.Frag} {mg : Str → Option Value} {base : Heap} {A0 : Ad}
/-- are the items unlike? -/
def UnlikeIn (K : PySem.W.Frag) (H : Hp) (x : V) (b : Bool) : Prop := ∃ a xs, x = .ref a ∧ SqS K H a xs ∧ xs.length ≤ 40000 ∧ ((∃ ks, IntsV xs ks ∧ (b = true ↔ ks.Nodup)) ∨ ∃ ks, TupsV H xs ks ∧ (b = true ↔ ks.Nodup))
def spUnlike (K : PySem.W.Frag) : Sp := fun vs H Q _ => ∃ x b, vs = [x] ∧ UnlikeIn K H x b ∧ ∀ H', Ex H H' → Q (.bl b) H'
theorem dec_dkv {κ : Type} [DecidableEq κ] {v : V} {ks : List κ} {xs : List V} {b : Bool} (hl : xs.length = ks.length) (hb : b = true ↔ ks.Nodup) : V.bl (decide (V.int ((dkv v ks).length : Int) = V.int (xs.length : Int))) = V.bl b := by
  have u := uq_dkv v ks
  congr 1
  rw [Bool.eq_iff_iff, decide_eq_true_iff, hb, ← u.eq, hl]
  constructor
  · intro h
    injection h with h
    omega
  · intro h
    rw [h]
theorem c_are_unlike (T : Tx A0 K w mg) : C8.Cal P w K mg base 1 "are_unlike" (spUnlike K) [] := by
  refine cal_of T.d_are_unlike sc_are_unlike (fun vs H Q E h => by obtain ⟨x, b, rfl, _⟩ := h; rfl) (fun f cdv A outer s H vs Q E hr h => ?_)
  obtain ⟨x, b, rfl, ⟨a, xs, rfl, hs, hz, hk⟩, k⟩ := h
  refine ⟨_, (pss_one (ps_ret (pe_cmpR op_eq (pe_callB call_lenA (by rfl) T.len (by decide +kernel) (pa_cons (pe_dcA (hu_of hr) (own := [("one", 1)]) (by rfl) sc_are_unlike.nd (pi_seq (pv 0)) (blkOk_by (N := N_are_unlike) (sc := (C8.fnScope s_are_unlike)) (by decide +kernel)) (fun _ _ _ _ _ => (pg_name (i := 1) sc_are_unlike.nd rfl (by first | exact Or.inl rfl | exact Or.inr rfl))) (fun _ _ _ _ _ => pts_nil) (fun _ _ _ _ _ => (pv 1)) (fun _ _ _ _ _ => pe_bl)) pa_nil)) (pe_callB call_len_seq (by rfl) T.len (by decide +kernel) (pa_cons (pv 0) pa_nil)) (nomark _)))), ?_⟩
  have hlen : Ev (tCB (rLenS K) (tCons (tVar 0) tNil)) (start N_are_unlike [V.ref a]) H (.int (xs.length : Int)) := fun H1 e Q q => ⟨V.ref a, rfl, a, xs, rfl, hs.ex e, q H1 (Ex.refl H1)⟩
  rcases hk with ⟨ks, hk, hb⟩ | ⟨ks, hk, hb⟩
  · refine s_ret (ev_is (ev_op (len_int hs hk hz (ev_var rfl) (Nat.lt_succ_self 1)) hlen (rv_eq rfl)) (dec_dkv (by rw [hk, List.length_map]) hb)) fun H1 e => k H1 e
  · refine s_ret (ev_is (ev_op (len_tup hs hk hz (ev_var rfl) (Nat.lt_succ_self 1)) hlen (rv_eq rfl)) (dec_dkv hk.1 hb)) fun H1 e => k H1 e
end
end SB
end

section
set_option Elab.async false
set_option linter.all false
set_option maxRecDepth 100000
set_option maxHeartbeats 2000000
set_option autoImplicit false
/-! SbHist: histories as plain things. -/
namespace SB
open PySem PySem.Spec PyProof.Rows L2 Evl
def isInt : PyData → Bool
  | .int _ => true
  | _ => false
def isTup : PyData → Bool
  | .tuple _ => true
  | _ => false
def isBln : PyData → Bool
  | .bool _ => true
  | _ => false
def isStr : PyData → Bool
  | .str _ => true
  | _ => false
def isVal : PyData → Bool
  | .int i => decide (0 ≤ i) && decide (i ≤ 1000000)
  | _ => false
def toI : PyData → Int
  | .int i => i
  | _ => 0
theorem isInt_is {x : PyData} (h : isInt x = true) : x = .int (toI x) := by
  cases x <;> first | rfl | cases h
theorem isVal_eq (x : PyData) : isVal x = (isInt x && (decide (0 ≤ toI x) && decide (toI x ≤ 1000000))) := by
  cases x <;> rfl
inductive Srt where
  | cell | queue | stack | heads | counter | tickets | set
  | room (n : Int)
deriving DecidableEq
namespace Srt
def name : Srt → Str
  | .cell => "cell" | .queue => "queue" | .stack => "stack" | .heads => "heads" | .counter => "counter" | .tickets => "tickets" | .set => "set" | .room _ => "room"
def data : Srt → PyData
  | .room n => .tuple [.str "room", .int n]
  | s => .str s.name
def words : Srt → List Str
  | .cell => ["write", "read"]
  | .queue | .stack | .heads => ["put", "take"]
  | .counter => ["add", "count"]
  | .tickets => ["draw"]
  | .set => ["join", "drop", "has"]
  | .room _ => ["enter", "leave"]
def ok : Srt → Prop
  | .room n => 1 ≤ n ∧ n ≤ 9
  | _ => True
end Srt
def GIV : List Str := ["write", "put", "enter", "leave", "join", "drop"]
def ASK : List Str := ["read", "take"]
def NUM : List Str := ["count", "draw"]
def canGive (w : Str) (g : PyData) : Bool := if (decide (w ∈ GIV) || decide (w = "has")) = true then isVal g else isNon g
def canTell (w : Str) (t : PyData) : Bool := if decide (w ∈ ASK) = true then isNon t || isVal t else if decide (w ∈ NUM) = true then isVal t else if decide (w = "has") = true then isInt t && decide (toI t ∈ ([0, 1] : List Int)) else isNon t
/-- a call -/
structure Cl where
  (b e th : Int)
  wo : Str
  (giv told : PyData)
namespace Cl
def doing (c : Cl) : List PyData := [.int c.th, .str c.wo, c.giv, c.told]
def items (c : Cl) : List PyData := .int c.b :: .int c.e :: c.doing
def data (c : Cl) : PyData := .tuple c.items
structure Ok (ss : List Srt) (c : Cl) : Prop where
  b0 : 0 ≤ c.b
  be : c.b < c.e
  e1 : c.e ≤ 1000000
  at_ : ∃ (i : Nat) (s : Srt), c.th = (i : Int) ∧ ss[i]? = some s ∧ c.wo ∈ s.words
  gv : canGive c.wo c.giv = true
  tl : canTell c.wo c.told = true
end Cl
def dSorts (ss : List Srt) : PyData := .tuple (ss.map Srt.data)
def dCalls (cs : List Cl) : PyData := .tuple (cs.map Cl.data)
def dHist (ss : List Srt) (cs : List Cl) : PyData := .tuple [dSorts ss, dCalls cs]
def moments (cs : List Cl) : List Int := cs.map Cl.b ++ cs.map Cl.e
def giverKeys (cs : List Cl) : List (List Key) := (cs.filter fun c => decide (c.wo ∈ GIV)).map fun c => [.inl c.th, .inr c.wo, .inl (toI c.giv)]
structure HistOk (ss : List Srt) (cs : List Cl) : Prop where
  s1 : 1 ≤ ss.length
  s4 : ss.length ≤ 4
  so : ∀ s ∈ ss, s.ok
  c10 : cs.length ≤ 10
  co : ∀ c ∈ cs, c.Ok ss
  md : (moments cs).Nodup
  up : ∀ (i : Nat) (c d : Cl), cs[i]? = some c → cs[i + 1]? = some d → c.b < d.b
  gd : (giverKeys cs).Nodup
/-- the history that is no history -/
def dWrong : PyData := .tuple [.tuple [.str "cell"], .tuple [.none]]
/-- the word list of a sort, by its name -/
theorem Srt.words_cases (s : Srt) : s.data = .str s.name ∧ isTup s.data = false ∨ ∃ n, s = .room n := by
  cases s <;> first | exact .inl ⟨rfl, rfl⟩ | exact .inr ⟨_, rfl⟩
theorem canGive_int {w : Str} {g : PyData} (h : canGive w g = true) (hw : w ∈ GIV) : ∃ i, g = .int i := by
  unfold canGive at h
  rw [if_pos (by simp [hw])] at h
  cases g <;> first | exact ⟨_, rfl⟩ | cases h
theorem noL_scal {g : PyData} (h : isNon g = true ∨ isVal g = true ∨ isInt g = true) : noL g = true := by
  cases g <;> first | rfl | (rcases h with h | h | h <;> cases h)
theorem canGive_noL {w : Str} {g : PyData} (h : canGive w g = true) : noL g = true := by
  unfold canGive at h
  split at h
  · exact noL_scal (.inr (.inl h))
  · exact noL_scal (.inl h)
theorem canTell_noL {w : Str} {t : PyData} (h : canTell w t = true) : noL t = true := by
  unfold canTell at h
  split at h
  · rcases Bool.or_eq_true_iff.mp h with h | h
    · exact noL_scal (.inl h)
    · exact noL_scal (.inr (.inl h))
  · split at h
    · exact noL_scal (.inr (.inl h))
    · split at h
      · exact noL_scal (.inr (.inr (Bool.and_eq_true_iff.mp h).1))
      · exact noL_scal (.inl h)
theorem Cl.Ok.noL {ss : List Srt} {c : Cl} (h : c.Ok ss) : SB.noL c.data = true := by
  show (SB.noL (.int c.b) && (SB.noL (.int c.e) && (SB.noL (.int c.th) && (SB.noL (.str c.wo) && (SB.noL c.giv && (SB.noL c.told && true)))))) = true
  rw [canGive_noL h.gv, canTell_noL h.tl]
  rfl
end SB
end

section
set_option Elab.async false
set_option linter.all false
set_option maxRecDepth 100000
set_option maxHeartbeats 2000000
set_option autoImplicit false
/-! SbD1: small defs of the program. -/
namespace SB
open PySem PySem.Spec PyProof.Rows L2 Evl
abbrev s_is_integer : Stmt := topS 15
abbrev N_is_integer : List Str := ["thing"]
theorem sc_is_integer : FnScope N_is_integer ["thing"] (C8.fnScope s_is_integer) := C8.fnScope_by (by decide +kernel)
abbrev s_is_value : Stmt := topS 16
abbrev N_is_value : List Str := ["thing"]
theorem sc_is_value : FnScope N_is_value ["thing"] (C8.fnScope s_is_value) := C8.fnScope_by (by decide +kernel)
abbrev s_is_before : Stmt := topS 32
abbrev N_is_before : List Str := ["calls", "number", "far"]
theorem sc_is_before : FnScope N_is_before ["calls", "number", "far"] (C8.fnScope s_is_before) := C8.fnScope_by (by decide +kernel)
abbrev s_are_numbers : Stmt := topS 34
abbrev N_are_numbers : List Str := ["thing", "many", "one"]
theorem sc_are_numbers : FnScope N_are_numbers ["thing", "many"] (C8.fnScope s_are_numbers) := C8.fnScope_by (by decide +kernel)
abbrev s_can_give : Stmt := topS 20
abbrev N_can_give : List Str := ["word", "given"]
theorem sc_can_give : FnScope N_can_give ["word", "given"] (C8.fnScope s_can_give) := C8.fnScope_by (by decide +kernel)
abbrev s_can_tell : Stmt := topS 21
abbrev N_can_tell : List Str := ["word", "told"]
theorem sc_can_tell : FnScope N_can_tell ["word", "told"] (C8.fnScope s_can_tell) := C8.fnScope_by (by decide +kernel)
section
variable {P : Program} {w : World} {K : PySem.W.Frag} {mg : Str → Option Value} {base : Heap} {A0 : Ad}
theorem kit_int (x : PyData) : kitB (tyD x) "int" = some (isInt x || isBln x) := by
  have h : ∀ y ∈ ["NoneType", "str", "list", "tuple", "dict"], kitB y "int" = some false := by decide +kernel
  have h2 : kitB "int" "int" = some true := by decide +kernel
  have h3 : kitB "bool" "int" = some true := by decide +kernel
  cases x <;> first | exact h _ (by simp [tyD]) | exact h2 | exact h3
theorem kit_bool (x : PyData) : kitB (tyD x) "bool" = some (isBln x) := by
  have h : ∀ y ∈ ["NoneType", "str", "list", "tuple", "dict", "int"], kitB y "bool" = some false := by decide +kernel
  have h3 : kitB "bool" "bool" = some true := by decide +kernel
  cases x <;> first | exact h _ (by simp [tyD]) | exact h3
theorem kit_tuple (x : PyData) : kitB (tyD x) "tuple" = some (isTup x) := by
  have h : ∀ y ∈ ["NoneType", "str", "list", "bool", "dict", "int"], kitB y "tuple" = some false := by decide +kernel
  have h3 : kitB "tuple" "tuple" = some true := by decide +kernel
  cases x <;> first | exact h _ (by simp [tyD]) | exact h3
theorem kit_str (x : PyData) : kitB (tyD x) "str" = some (isStr x) := by
  have h : ∀ y ∈ ["NoneType", "tuple", "list", "bool", "dict", "int"], kitB y "str" = some false := by decide +kernel
  have h3 : kitB "str" "str" = some true := by decide +kernel
  cases x <;> first | exact h _ (by simp [tyD]) | exact h3
theorem DtAll.one {B : Addr → Prop} {H : Hp} {vs : List V} {d : PyData} (h : DtAll K B H vs [d]) : ∃ v, vs = [v] ∧ Dt K B H v d := by
  cases h with
  | cons a b =>
    cases b
    exact ⟨_, rfl, a⟩
theorem DtAll.two {B : Addr → Prop} {H : Hp} {vs : List V} {d e : PyData} (h : DtAll K B H vs [d, e]) : ∃ v u, vs = [v, u] ∧ Dt K B H v d ∧ Dt K B H u e := by
  cases h with
  | cons a b =>
    obtain ⟨u, rfl, hu⟩ := b.one
    exact ⟨_, u, rfl, a, hu⟩
theorem DtAll.three {B : Addr → Prop} {H : Hp} {vs : List V} {d e f : PyData} (h : DtAll K B H vs [d, e, f]) : ∃ v u z, vs = [v, u, z] ∧ Dt K B H v d ∧ Dt K B H u e ∧ Dt K B H z f := by
  cases h with
  | cons a b =>
    obtain ⟨u, z, rfl, hu, hz⟩ := b.two
    exact ⟨_, u, z, rfl, a, hu, hz⟩
theorem DtAll.four {B : Addr → Prop} {H : Hp} {vs : List V} {d e f g : PyData} (h : DtAll K B H vs [d, e, f, g]) : ∃ v u z y, vs = [v, u, z, y] ∧ Dt K B H v d ∧ Dt K B H u e ∧ Dt K B H z f ∧ Dt K B H y g := by
  cases h with
  | cons a b =>
    obtain ⟨u, z, y, rfl, hu, hz, hy⟩ := b.three
    exact ⟨_, u, z, y, rfl, a, hu, hz, hy⟩
end
theorem ed_call {K : PySem.W.Frag} {σ : L2.St} {H : Hp} {n : Nat} {R : List PyData → PyData → Prop} {E : XK} {ar : TA} {ds : List PyData} {d : PyData} (h : EvAD K ar σ H ds) (hR : R ds d) (hn : ds.length = n) : EvD K (tCall (spP K n R) [] E ar) σ H d := evd_call h hR hn
/-! ### statements over data -/
section
variable {K : PySem.W.Frag} {σ : L2.St} {H H' : Hp} {ta tb te tl : TE} {t : TT} {d e : PyData} {D : Ends} {tz : TS}
theorem sd_ret (h : EvD K te σ H d) (k : ∀ v H1, Ex H H1 → Dt K No H1 v d → D.rt v H1) : tRet te D σ H := h.go k
theorem sd_asg {i : Nat} (h : EvD K te σ H d) (k : ∀ v H1, Ex H H1 → Dt K No H1 v d → D.nx (σ.set i (some v)) H1) : tAsg te (gName i) D σ H := h.go k
theorem qd_asg {i : Nat} (h : EvD K te σ H d) (k : ∀ v H1, Ex H H1 → Dt K No H1 v d → tz D (σ.set i (some v)) H1) : tSeq (tAsg te (gName i)) tz D σ H := sd_asg (D := { D with nx := tz D }) h k
theorem qd_par {i j : Nat} (h : EvD K ta σ H d) (h' : EvD K tb σ H e) (k : ∀ v u H1, Ex H H1 → Dt K No H1 v d → Dt K No H1 u e → tz D ((σ.set i (some v)).set j (some u)) H1) : tSeq (tPar i j (tCons ta (tCons tb tNil))) tz D σ H :=
  h.go fun v H1 e1 hv => h' H1 e1 _ fun u H2 e2 hu => ⟨v, u, rfl, k v u H2 (e1.trans e2) (hv.ex e2) hu⟩
theorem qd_drop (h : EvD K te σ H d) (k : ∀ H1, Ex H H1 → tz D σ H1) : tSeq (tDrop te) tz D σ H := h.go fun _ H1 e _ => k H1 e
/-- all(..) of a list comprehension over a tuple -/
theorem fm_yes (g : PyData → PyData) (ds : List PyData) : fm (fun _ => true) g ds = ds.map g := by
  unfold fm
  rw [List.filter_eq_self.mpr fun _ _ => rfl]
theorem lcT_bool {j : Nat} {ds : List PyData} (h : PyData → Bool) (hl : EvD K tl σ H (.tuple ds)) (hz : ds.length ≤ 40000) (k : ∀ d ∈ ds, ∀ x H1, Ex H H1 → Dt K No H1 x d → EvD K te (σ.set j (some x)) H1 (.bool (h d))) :
    EvD K (tLc (iTup K tl) (gName j) tYes te [j]) σ H (.list ((ds.map h).map PyData.bool)) := by
  have r := evn_lcT (K := K) (te := te) (t := tYes) (gt := gName j) (vs := [j]) (fun _ => true) (fun d => .bool (h d)) hl hz fun d hd x H1 e hx => tk_name et_yes (fun _ => k d hd x H1 e hx) fun _ => rfl
  rw [fm_yes] at r
  rw [List.map_map]
  exact r.d
theorem lcL_bool {j : Nat} {ds : List PyData} (h : PyData → Bool) (hl : EvD K tl σ H (.list ds)) (hz : ds.length ≤ 40000) (k : ∀ d ∈ ds, ∀ x H1, Ex H H1 → Dt K No H1 x d → EvD K te (σ.set j (some x)) H1 (.bool (h d))) :
    EvD K (tLc (iList K tl) (gName j) tYes te [j]) σ H (.list ((ds.map h).map PyData.bool)) := by
  have r := evn_lcL (K := K) (te := te) (t := tYes) (gt := gName j) (vs := [j]) (fun _ => true) (fun d => .bool (h d)) hl hz fun d hd x H1 e hx => tk_name et_yes (fun _ => k d hd x H1 e hx) fun _ => rfl
  rw [fm_yes] at r
  rw [List.map_map]
  exact r.d
/-- [g of each for x in ts] -/
theorem lcT_map {j : Nat} {ds : List PyData} (g : PyData → PyData) (hl : EvD K tl σ H (.tuple ds)) (hz : ds.length ≤ 40000) (gl : ∀ d ∈ ds, noL (g d) = true) (k : ∀ d ∈ ds, ∀ x H1, Ex H H1 → Dt K No H1 x d → EvD K te (σ.set j (some x)) H1 (g d)) :
    EvN K (tLc (iTup K tl) (gName j) tYes te [j]) σ H (ds.map g) := by
  have r := evn_lcT (K := K) (te := te) (t := tYes) (gt := gName j) (vs := [j]) (fun _ => true) g hl hz fun d hd x H1 e hx => tk_name et_yes (fun _ => k d hd x H1 e hx) fun _ => gl d hd
  rw [fm_yes] at r
  exact r
theorem lcL_map {j : Nat} {ds : List PyData} (g : PyData → PyData) (hl : EvD K tl σ H (.list ds)) (hz : ds.length ≤ 40000) (gl : ∀ d ∈ ds, noL (g d) = true) (k : ∀ d ∈ ds, ∀ x H1, Ex H H1 → Dt K No H1 x d → EvD K te (σ.set j (some x)) H1 (g d)) :
    EvN K (tLc (iList K tl) (gName j) tYes te [j]) σ H (ds.map g) := by
  have r := evn_lcL (K := K) (te := te) (t := tYes) (gt := gName j) (vs := [j]) (fun _ => true) g hl hz fun d hd x H1 e hx => tk_name et_yes (fun _ => k d hd x H1 e hx) fun _ => gl d hd
  rw [fm_yes] at r
  exact r
/-- [x for x in ts if ..] -/
theorem lcT_fil {j : Nat} {ds : List PyData} (f : PyData → Bool) (hl : EvD K tl σ H (.tuple ds)) (hz : ds.length ≤ 40000) (hj : j < σ.length) (k : ∀ d ∈ ds, ∀ x H1, Ex H H1 → Dt K No H1 x d → EvT t (σ.set j (some x)) H1 (f d)) :
    EvN K (tLc (iTup K tl) (gName j) t (tVar j) [j]) σ H (ds.filter f) := by
  have r := evn_lcT (K := K) (te := tVar j) (t := t) (gt := gName j) (vs := [j]) f (fun d => d) hl hz fun d hd x H1 e hx => tk_self hj hx (k d hd x H1 e hx)
  unfold fm at r
  rw [List.map_id'] at r
  exact r
theorem lcL_fil {j : Nat} {ds : List PyData} (f : PyData → Bool) (hl : EvD K tl σ H (.list ds)) (hz : ds.length ≤ 40000) (hj : j < σ.length) (k : ∀ d ∈ ds, ∀ x H1, Ex H H1 → Dt K No H1 x d → EvT t (σ.set j (some x)) H1 (f d)) :
    EvN K (tLc (iList K tl) (gName j) t (tVar j) [j]) σ H (ds.filter f) := by
  have r := evn_lcL (K := K) (te := tVar j) (t := t) (gt := gName j) (vs := [j]) f (fun d => d) hl hz fun d hd x H1 e hx => tk_self hj hx (k d hd x H1 e hx)
  unfold fm at r
  rw [List.map_id'] at r
  exact r
end
theorem cxK {P : Program} {w : World} {K : PySem.W.Frag} {mg : Str → Option Value} {base : Heap} {N : List Str} {x : Str} {sc : Scope} {f : Addr} {cdv : Value} {A : Around} {outer : List Env} {s : Shared} {H : Hp} {E : XK} : (cxOf C8.CX0 P w K mg base N x sc f cdv A outer s H E).nox.K = K := rfl
theorem cxK2 {P : Program} {w : World} {K : PySem.W.Frag} {mg : Str → Option Value} {base : Heap} {N : List Str} {x : Str} {sc : Scope} {f : Addr} {cdv : Value} {A : Around} {outer : List Env} {s : Shared} {H : Hp} {E : XK} : (cxOf C8.CX0 P w K mg base N x sc f cdv A outer s H E).K = K := rfl
local macro_rules | `(tactic| walk_at "sd") => `(tactic| first | with_reducible rfl | assumption | exact SeqD.t | exact SeqD.l | rfl | omega)
local macro_rules | `(tactic| walk_at "dt") => `(tactic| first | assumption | exact Dt.int _ | exact Dt.bl _ | exact Dt.str _ | exact Dt.non | exact Dt.ex (by assumption) (by assumption))
local macro_rules | `(tactic| walk_at "ev") => `(tactic| first
  | assumption
  | with_reducible apply ed_int
  | with_reducible apply ed_str
  | with_reducible apply ed_bl
  | with_reducible apply ed_non
  | with_reducible apply ead_nil
  | with_reducible exact et_yes
  | with_reducible exact eo_none
  | exact evd_var rfl (by walk_at "dt")
  | ((with_reducible apply td_test); walk_at "ev")
  | ((with_reducible apply td_B); walk_at "ev")
  | ((with_reducible apply et_not); walk_at "ev")
  | ((with_reducible apply et_and); walk_at "ev"; intro _; walk_at "ev")
  | ((with_reducible apply et_or); walk_at "ev"; intro _; walk_at "ev")
  | ((with_reducible apply ead_cons); walk_at "ev"; walk_at "ev")
  | ((with_reducible apply eod_some); walk_at "ev")
  | ((with_reducible apply evd_tup); walk_at "ev"; first | decide | (focus (simp; done)) | omega)
  | ((with_reducible apply evd_lst); walk_at "ev"; first | decide | (focus (simp; done)) | omega)
  | ((with_reducible apply ed_not); walk_at "ev")
  | ((with_reducible apply ed_and); walk_at "ev"; intro _; walk_at "ev")
  | ((with_reducible apply ed_or); walk_at "ev"; intro _; walk_at "ev")
  | ((with_reducible apply ed_i0); walk_at "ev"; walk_at "ev")
  | ((with_reducible apply ed_b0); walk_at "ev"; walk_at "ev")
  | ((with_reducible apply ed_eqI); walk_at "ev"; walk_at "ev")
  | ((with_reducible apply ed_eqS); walk_at "ev"; walk_at "ev")
  | ((with_reducible apply ed_eqB); walk_at "ev"; walk_at "ev")
  | ((with_reducible apply ed_neI); walk_at "ev"; walk_at "ev")
  | ((with_reducible apply ed_neS); walk_at "ev"; walk_at "ev")
  | ((with_reducible apply ed_neB); walk_at "ev"; walk_at "ev")
  | ((with_reducible apply ed_isN); walk_at "ev"; walk_at "ev")
  | ((with_reducible apply ed_notN); walk_at "ev"; walk_at "ev")
  | ((with_reducible apply ed_chain); walk_at "ev"; walk_at "ev"; walk_at "ev")
  | ((with_reducible apply ed_ixT); walk_at "ev"; walk_at "ev"; walk_at "sd")
  | ((with_reducible apply ed_ixL); walk_at "ev"; walk_at "ev"; walk_at "sd")
  | ((with_reducible apply ed_isi); walk_at "ev"; (first | exact kit_int _ | exact kit_bool _ | exact kit_tuple _ | exact kit_str _))
  | ((with_reducible apply ed_len); walk_at "ev"; walk_at "sd")
  | ((with_reducible apply ed_call); walk_at "ev"; (first | assumption | exact ⟨_, rfl, rfl⟩ | exact ⟨_, _, rfl, rfl⟩ | exact ⟨_, _, _, rfl, rfl⟩); exact rfl)
  | ((with_reducible apply ed_max2); walk_at "ev"; walk_at "ev")
  | ((with_reducible apply ed_min2); walk_at "ev"; walk_at "ev")
  | ((with_reducible apply ed_list); walk_at "ev"; walk_at "sd")
  | ((with_reducible apply ed_tuple); walk_at "ev"; walk_at "sd")
  | ((with_reducible apply ed_neg); walk_at "ev"))

section
variable {P : Program} {w : World} {K : PySem.W.Frag} {mg : Str → Option Value} {base : Heap} {A0 : Ad}
abbrev spIsInteger (K : PySem.W.Frag) : Sp := spP K 1 fun ds d => ∃ x, ds = [x] ∧ d = .bool (isInt x)
theorem c_is_integer (T : Tx A0 K w mg) : C8.Cal P w K mg base 1 "is_integer" (spIsInteger K) [] := by
  refine cal_of T.d_is_integer sc_is_integer (fun vs H Q E h => h.1) (fun f cdv A outer s H vs Q E hr h => ?_)
  obtain ⟨hl, ds, d, hd, ⟨x, rfl, rfl⟩, k⟩ := h
  refine ⟨_, (pss_one (ps_ret (pe_and (pe_callB call_isi (by rfl) T.isinstance (by decide +kernel) (pa_cons (pv 0) (pa_cons (pe_bltn (v := .ty "int") (by rfl) T.int PyProof.Rows.boot_int rfl) pa_nil))) (pe_one (pe_not (pe_callB call_isi (by rfl) T.isinstance (by decide +kernel) (pa_cons (pv 0) (pa_cons (pe_bltn (v := .ty "bool") (by rfl) T.bool PyProof.Rows.boot_bool rfl) pa_nil)))))))), ?_⟩
  try simp only [cxK, cxK2]
  obtain ⟨v, rfl, hv⟩ := hd.one
  refine s_ret (v := .bl (isInt x)) (EvD.b (evd_is (by walk_at "ev") ?_)) fun H1 e => k _ H1 e (.bl _)
  cases x <;> rfl
abbrev spIsValue (K : PySem.W.Frag) : Sp := spP K 1 fun ds d => ∃ x, ds = [x] ∧ d = .bool (isVal x)
theorem c_is_value (T : Tx A0 K w mg) : C8.Cal P w K mg base 2 "is_value" (spIsValue K) [] := by
  have c_is_integer := c_is_integer (P := P) (base := base) T
  refine cal_of T.d_is_value sc_is_value (fun vs H Q E h => h.1) (fun f cdv A outer s H vs Q E hr h => ?_)
  obtain ⟨hl, ds, d, hd, ⟨x, rfl, rfl⟩, k⟩ := h
  refine ⟨_, (pss_one (ps_ret (pe_and (C8.pe_c c_is_integer hr (by decide) (by rfl) (pa_cons (pv 0) pa_nil)) (pe_one (pe_chain op_le op_le pe_int (pv 0) (pe_gi (by rfl) T.MOST_VALUE)))))), ?_⟩
  try simp only [cxK, cxK2]
  obtain ⟨v, rfl, hv⟩ := hd.one
  refine s_ret (v := .bl (isVal x)) (EvD.b (evd_is (ed_and (b := decide (0 ≤ toI x) && decide (toI x ≤ 1000000)) (by walk_at "ev") fun hx => ?_) ?_)) fun H1 e => k _ H1 e (.bl (isVal x))
  · rw [isInt_is hx] at hv
    walk_at "ev"
  · rw [isVal_eq]
abbrev spCanGive (K : PySem.W.Frag) : Sp := spP K 2 fun ds d => ∃ x g, ds = [.str x, g] ∧ d = .bool (canGive x g)
theorem c_can_give (T : Tx A0 K w mg) : C8.Cal P w K mg base 3 "can_give" (spCanGive K) [] := by
  have c_is_value := c_is_value (P := P) (base := base) T
  refine cal_of T.d_can_give sc_can_give (fun vs H Q E h => h.1) (fun f cdv A outer s H vs Q E hr h => ?_)
  obtain ⟨hl, ds, d, hd, ⟨x, g, rfl, rfl⟩, k⟩ := h
  refine ⟨_, (pss_one (ps_ret (pe_ifExp (PW.pt (pw_or (pt_cmpR op_in_seq (pv 0) (pe_gr (by rfl) T.GIVERS) (by rfl)) (pw_or1 (pt_cmpR op_eq (pv 0) pe_str (nomark _))))) (C8.pe_c c_is_value hr (by decide) (by rfl) (pa_cons (pv 1) pa_nil)) (pe_cmpR op_isN (pv 1) pe_non (nomark _))))), ?_⟩
  try simp only [cxK, cxK2]
  obtain ⟨v, u, rfl, hv, hu⟩ := hd.two
  have hG : ∀ H, Dt K No H (.ref A0.giv) (.tuple (GIV.map PyData.str)) := fun H => KTup.dt T.giv
  refine sd_ret (d := .bool (canGive x g)) (evd_if (b := decide (x ∈ GIV) || decide (x = "has")) (et_or (td_test (ed_inS (by walk_at "ev") (ed_ref (hG _)))) fun _ => by walk_at "ev") (fun h => ?_) fun h => ?_) fun v H1 e => k v H1 e
  · rw [canGive, if_pos h]
    walk_at "ev"
  · rw [canGive, if_neg (by rw [h]; decide)]
    apply ed_isN
    · walk_at "ev"
    · walk_at "ev"
abbrev spCanTell (K : PySem.W.Frag) : Sp := spP K 2 fun ds d => ∃ x g, ds = [.str x, g] ∧ d = .bool (canTell x g)
theorem c_can_tell (T : Tx A0 K w mg) : C8.Cal P w K mg base 3 "can_tell" (spCanTell K) [] := by
  have c_is_value := c_is_value (P := P) (base := base) T
  have c_is_integer := c_is_integer (P := P) (base := base) T
  refine cal_of T.d_can_tell sc_can_tell (fun vs H Q E h => h.1) (fun f cdv A outer s H vs Q E hr h => ?_)
  obtain ⟨hl, ds, d, hd, ⟨x, g, rfl, rfl⟩, k⟩ := h
  refine ⟨_, (pss_cons (ps_if (pt_cmpR op_in_seq (pv 0) (pe_gr (by rfl) T.ASKERS) (by rfl)) (pss_one (ps_ret (pe_or (pe_cmpR op_isN (pv 1) pe_non (nomark _)) (pe_one (C8.pe_c c_is_value hr (by decide) (by rfl) (pa_cons (pv 1) pa_nil)))))) pss_nil)
        (pss_cons (ps_if (pt_cmpR op_in_seq (pv 0) (pe_gr (by rfl) T.NUMBERS) (by rfl)) (pss_one (ps_ret (C8.pe_c c_is_value hr (by decide) (by rfl) (pa_cons (pv 1) pa_nil)))) pss_nil)
        (pss_cons (ps_if (pt_cmpR op_eq (pv 0) pe_str (nomark _)) (pss_one (ps_ret (pe_and (C8.pe_c c_is_integer hr (by decide) (by rfl) (pa_cons (pv 1) pa_nil)) (pe_one (pe_cmpR op_in_seq (pv 1) (pe_tup (pa_cons pe_int (pa_cons pe_int pa_nil))) (by rfl)))))) pss_nil)
        (pss_one (ps_ret (pe_cmpR op_isN (pv 1) pe_non (nomark _))))))), ?_⟩
  try simp only [cxK, cxK2]
  obtain ⟨v, u, rfl, hv, hu⟩ := hd.two
  have hA : ∀ H, Dt K No H (.ref A0.ask) (.tuple (ASK.map PyData.str)) := fun H => KTup.dt T.ask
  have hN : ∀ H, Dt K No H (.ref A0.num) (.tuple (NUM.map PyData.str)) := fun H => KTup.dt T.num
  refine q_when (b := decide (x ∈ ASK)) (td_test (ed_inS (by walk_at "ev") (ed_ref (hA _)))) (fun h H1 e1 => ?_) fun h1 H1 e1 => ?_
  · refine sd_ret (d := .bool (canTell x g)) ?_ fun v H2 e => k v H2 (e1.trans e)
    rw [canTell, if_pos h]
    walk_at "ev"
  · refine q_when (b := decide (x ∈ NUM)) (td_test (ed_inS (by walk_at "ev") (ed_ref (hN _)))) (fun h H2 e2 => ?_) fun h2 H2 e2 => ?_
    · have e12 := e1.trans e2
      refine sd_ret (d := .bool (canTell x g)) ?_ fun v H3 e => k v H3 (e12.trans e)
      rw [canTell, if_neg (by rw [h1]; decide), if_pos h]
      walk_at "ev"
    · have e12 := e1.trans e2
      refine q_when (b := decide (x = "has")) (by walk_at "ev") (fun h H3 e3 => ?_) fun h3 H3 e3 => ?_
      · have e13 := e12.trans e3
        refine sd_ret (d := .bool (canTell x g)) ?_ fun v H3 e => k v H3 (e13.trans e)
        rw [canTell, if_neg (by rw [h1]; decide), if_neg (by rw [h2]; decide), if_pos h]
        refine ed_and (by walk_at "ev") fun hi => ?_
        have hu2 : Dt K No H3 u (.int (toI g)) := by
          rw [← isInt_is hi]
          exact hu.ex e13
        exact ed_inI (ns := [0, 1]) (by walk_at "ev") (evd_tup (ead_cons ed_int (ead_cons ed_int ead_nil)) (by decide)) .t
      · have e13 := e12.trans e3
        refine sd_ret (d := .bool (canTell x g)) ?_ fun v H3 e => k v H3 (e13.trans e)
        rw [canTell, if_neg (by rw [h1]; decide), if_neg (by rw [h2]; decide), if_neg (by rw [h3]; decide)]
        walk_at "ev"
end
end SB
end

section
set_option Elab.async false
set_option linter.all false
set_option maxRecDepth 100000
set_option maxHeartbeats 2000000
set_option autoImplicit false
/-! SbD2: sorts, words, doings, calls. -/
namespace SB
open PySem PySem.Spec PyProof.Rows L2 Evl
abbrev s_words_of : Stmt := topS 18
abbrev N_words_of : List Str := ["sort"]
theorem sc_words_of : FnScope N_words_of ["sort"] (C8.fnScope s_words_of) := C8.fnScope_by (by decide +kernel)
abbrev s_is_word_of : Stmt := topS 19
abbrev N_is_word_of : List Str := ["sort", "word"]
theorem sc_is_word_of : FnScope N_is_word_of ["sort", "word"] (C8.fnScope s_is_word_of) := C8.fnScope_by (by decide +kernel)
abbrev s_is_sort : Stmt := topS 17
abbrev N_is_sort : List Str := ["thing"]
theorem sc_is_sort : FnScope N_is_sort ["thing"] (C8.fnScope s_is_sort) := C8.fnScope_by (by decide +kernel)
abbrev s_is_doing : Stmt := topS 22
abbrev N_is_doing : List Str := ["sorts", "doing", "thing", "word", "given", "told"]
theorem sc_is_doing : FnScope N_is_doing ["sorts", "doing"] (C8.fnScope s_is_doing) := C8.fnScope_by (by decide +kernel)



local macro_rules | `(tactic| walk_at "sd") => `(tactic| first | with_reducible rfl | assumption | exact SeqD.t | exact SeqD.l | rfl | omega)
local macro_rules | `(tactic| walk_at "dt") => `(tactic| first | assumption | exact Dt.int _ | exact Dt.bl _ | exact Dt.str _ | exact Dt.non | exact Dt.ex (by assumption) (by assumption))
local macro_rules | `(tactic| walk_at "ev") => `(tactic| first
  | assumption
  | with_reducible apply ed_int
  | with_reducible apply ed_str
  | with_reducible apply ed_bl
  | with_reducible apply ed_non
  | with_reducible apply ead_nil
  | with_reducible exact et_yes
  | with_reducible exact eo_none
  | exact evd_var rfl (by walk_at "dt")
  | ((with_reducible apply td_test); walk_at "ev")
  | ((with_reducible apply td_B); walk_at "ev")
  | ((with_reducible apply et_not); walk_at "ev")
  | ((with_reducible apply et_and); walk_at "ev"; intro _; walk_at "ev")
  | ((with_reducible apply et_or); walk_at "ev"; intro _; walk_at "ev")
  | ((with_reducible apply ead_cons); walk_at "ev"; walk_at "ev")
  | ((with_reducible apply eod_some); walk_at "ev")
  | ((with_reducible apply evd_tup); walk_at "ev"; first | decide | (focus (simp; done)) | omega)
  | ((with_reducible apply evd_lst); walk_at "ev"; first | decide | (focus (simp; done)) | omega)
  | ((with_reducible apply ed_not); walk_at "ev")
  | ((with_reducible apply ed_and); walk_at "ev"; intro _; walk_at "ev")
  | ((with_reducible apply ed_or); walk_at "ev"; intro _; walk_at "ev")
  | ((with_reducible apply ed_i0); walk_at "ev"; walk_at "ev")
  | ((with_reducible apply ed_b0); walk_at "ev"; walk_at "ev")
  | ((with_reducible apply ed_eqI); walk_at "ev"; walk_at "ev")
  | ((with_reducible apply ed_eqS); walk_at "ev"; walk_at "ev")
  | ((with_reducible apply ed_eqB); walk_at "ev"; walk_at "ev")
  | ((with_reducible apply ed_neI); walk_at "ev"; walk_at "ev")
  | ((with_reducible apply ed_neS); walk_at "ev"; walk_at "ev")
  | ((with_reducible apply ed_neB); walk_at "ev"; walk_at "ev")
  | ((with_reducible apply ed_isN); walk_at "ev"; walk_at "ev")
  | ((with_reducible apply ed_notN); walk_at "ev"; walk_at "ev")
  | ((with_reducible apply ed_chain); walk_at "ev"; walk_at "ev"; walk_at "ev")
  | ((with_reducible apply ed_ixT); walk_at "ev"; walk_at "ev"; walk_at "sd")
  | ((with_reducible apply ed_ixL); walk_at "ev"; walk_at "ev"; walk_at "sd")
  | ((with_reducible apply ed_isi); walk_at "ev"; (first | exact kit_int _ | exact kit_bool _ | exact kit_tuple _ | exact kit_str _))
  | ((with_reducible apply ed_len); walk_at "ev"; walk_at "sd")
  | ((with_reducible apply ed_call); walk_at "ev"; (first | assumption | exact ⟨_, rfl, rfl⟩ | exact ⟨_, _, rfl, rfl⟩ | exact ⟨_, _, _, rfl, rfl⟩); exact rfl)
  | ((with_reducible apply ed_max2); walk_at "ev"; walk_at "ev")
  | ((with_reducible apply ed_min2); walk_at "ev"; walk_at "ev")
  | ((with_reducible apply ed_list); walk_at "ev"; walk_at "sd")
  | ((with_reducible apply ed_tuple); walk_at "ev"; walk_at "sd")
  | ((with_reducible apply ed_neg); walk_at "ev"))

section
variable {K : PySem.W.Frag} {σ : L2.St} {H H' : Hp} {ta tb te tl : TE} {t : TT} {d e : PyData} {D : Ends} {tz : TS} {w : World} {A0 : Ad} {mg : Str → Option Value}
/-- what WORDS holds -/
theorem Tx.word (T : Tx A0 K w mg) (s : Srt) : Wd K A0.wd s.name s.words := by
  cases s
  · exact T.w_cell
  · exact T.w_queue
  · exact T.w_stack
  · exact T.w_heads
  · exact T.w_counter
  · exact T.w_tickets
  · exact T.w_set
  · exact T.w_room
theorem ed_wix {x : Str} {ws : List Str} (T : Tx A0 K w mg) (hw : Wd K A0.wd x ws) (ha : Ev ta σ H (.ref A0.wd)) (hb : EvD K tb σ H (.str x)) : EvD K (tOp (rIxD K w) ta tb) σ H (.tuple (ws.map PyData.str)) := fun H1 e1 Q q =>
  ha H1 e1 _ fun H2 e2 => hb.s H2 (e1.trans e2) _ fun H3 e3 => by
    obtain ⟨es, n, W⟩ := T.words
    obtain ⟨a, ha, hk⟩ := hw
    exact ⟨A0.wd, x, .ref a, rfl, rfl, ⟨es, n, .ref a, W.at_, W.lit, ha, rfl⟩, q _ H3 (e2.trans e3) (KTup.dt hk)⟩
theorem ed_win {x : Str} {ws : List Str} (hw : Wd K A0.wd x ws) (ha : EvD K ta σ H (.str x)) (hb : Ev tb σ H (.ref A0.wd)) : EvD K (tOp (fun x y H Q => ∃ (z : Str) (r : Option Value), x = .str z ∧ y = .ref A0.wd ∧ PySem.W.nsIn K A0.wd z = some r ∧ Q (.bl r.isSome) H) ta tb) σ H (.bool true) := fun H1 e1 Q q =>
  ha.s H1 e1 _ fun H2 e2 => hb H2 (e1.trans e2) _ fun H3 e3 => by
    obtain ⟨a, ha, hk⟩ := hw
    exact ⟨x, _, rfl, rfl, ha, q _ H3 (e2.trans e3) (.bl true)⟩
/-- a tuple taken apart -/
theorem qd_unp4 {i j k l : Nat} {d1 d2 d3 d4 : PyData} (h : EvD K te σ H (.tuple [d1, d2, d3, d4])) (q : ∀ v1 v2 v3 v4 H1, Ex H H1 → Dt K No H1 v1 d1 → Dt K No H1 v2 d2 → Dt K No H1 v3 d3 → Dt K No H1 v4 d4 → tz D ((((σ.set i (some v1)).set j (some v2)).set k (some v3)).set l (some v4)) H1) :
    tSeq (tAsg te (gTup K 4 (gCons (gName i) (gCons (gName j) (gCons (gName k) (gCons (gName l) gNil)))))) tz D σ H := h.go fun v H1 e hv => by
  obtain ⟨a, xs, rfl, hs, hd⟩ := hv.toTup
  obtain ⟨v1, v2, v3, v4, rfl, h1, h2, h3, h4⟩ := hd.four
  exact ⟨a, _, rfl, hs, rfl, v1, _, rfl, v2, _, rfl, v3, _, rfl, v4, _, rfl, rfl, q v1 v2 v3 v4 H1 e h1 h2 h3 h4⟩
end
section
variable {P : Program} {w : World} {K : PySem.W.Frag} {mg : Str → Option Value} {base : Heap} {A0 : Ad}
abbrev spWordsOf (K : PySem.W.Frag) : Sp := spP K 1 fun ds d => ∃ s : Srt, ds = [s.data] ∧ d = .tuple (s.words.map PyData.str)
theorem c_words_of (T : Tx A0 K w mg) : C8.Cal P w K mg base 1 "words_of" (spWordsOf K) [] := by
  refine cal_of T.d_words_of sc_words_of (fun vs H Q E h => h.1) (fun f cdv A outer s H vs Q E hr h => ?_)
  obtain ⟨hl, ds, d, hd, ⟨x, rfl, rfl⟩, k⟩ := h
  refine ⟨_, (pss_one (ps_ret (pe_ifExp (pt_val (pe_callB call_isi (by rfl) T.isinstance (by decide +kernel) (pa_cons (pv 0) (pa_cons (pe_bltn (v := .ty "tuple") (by rfl) T.tuple PyProof.Rows.boot_tuple rfl) pa_nil)))) (pe_ix ix_kdict (pe_gr (by rfl) T.WORDS) (pe_gs (by rfl) T.ROOM) (fun _ _ => rfl)) (pe_ix ix_kdict (pe_gr (by rfl) T.WORDS) (pv 0) (fun _ _ => rfl))))), ?_⟩
  try simp only [cxK, cxK2]
  obtain ⟨v, rfl, hv⟩ := hd.one
  refine sd_ret (evd_if (b := isTup x.data) (by walk_at "ev") (fun h => ?_) fun h => ?_) k
  · obtain ⟨h1, h2⟩ | ⟨n, rfl⟩ := x.words_cases
    · rw [h2] at h
      cases h
    · exact ed_wix T (T.word (.room n)) ev_c ed_str
  · obtain ⟨h1, h2⟩ | ⟨n, rfl⟩ := x.words_cases
    · rw [h1] at hv
      exact ed_wix T (T.word x) ev_c (by walk_at "ev")
    · cases h
abbrev spIsWordOf (K : PySem.W.Frag) : Sp := spP K 2 fun ds d => ∃ (s : Srt) (x : Str), ds = [s.data, .str x] ∧ d = .bool (decide (x ∈ s.words))
theorem c_is_word_of (T : Tx A0 K w mg) : C8.Cal P w K mg base 2 "is_word_of" (spIsWordOf K) [] := by
  have c_words_of := c_words_of (P := P) (base := base) T
  refine cal_of T.d_is_word_of sc_is_word_of (fun vs H Q E h => h.1) (fun f cdv A outer s H vs Q E hr h => ?_)
  obtain ⟨hl, ds, d, hd, ⟨x, z, rfl, rfl⟩, k⟩ := h
  refine ⟨_, (pss_one (ps_ret (pe_and (pe_callB call_isi (by rfl) T.isinstance (by decide +kernel) (pa_cons (pv 1) (pa_cons (pe_bltn (v := .ty "str") (by rfl) T.str PyProof.Rows.boot_str rfl) pa_nil))) (pe_one (pe_cmpR op_in_seq (pv 1) (C8.pe_c c_words_of hr (by decide) (by rfl) (pa_cons (pv 0) pa_nil)) (by rfl)))))), ?_⟩
  try simp only [cxK, cxK2]
  obtain ⟨v, u, rfl, hv, hu⟩ := hd.two
  exact sd_ret (ed_and (a := true) (by walk_at "ev") fun h => ed_inS (by walk_at "ev") (ed_call (ead_cons (evd_var rfl hv) ead_nil) ⟨x, rfl, rfl⟩ rfl)) k
abbrev spIsSort (K : PySem.W.Frag) : Sp := spP K 1 fun ds d => ∃ s : Srt, s.ok ∧ ds = [s.data] ∧ d = .bool true
theorem c_is_sort (T : Tx A0 K w mg) : C8.Cal P w K mg base 2 "is_sort" (spIsSort K) [] := by
  have c_is_integer := c_is_integer (P := P) (base := base) T
  obtain ⟨es, nn, W⟩ := T.words
  refine cal_of T.d_is_sort sc_is_sort (fun vs H Q E h => h.1) (fun f cdv A outer s H vs Q E hr h => ?_)
  obtain ⟨hl, ds, d, hd, ⟨x, hx, rfl, rfl⟩, k⟩ := h
  refine ⟨_, (pss_cons (ps_if (pt_val (pe_callB call_isi (by rfl) T.isinstance (by decide +kernel) (pa_cons (pv 0) (pa_cons (pe_bltn (v := .ty "tuple") (by rfl) T.tuple PyProof.Rows.boot_tuple rfl) pa_nil)))) (pss_one (ps_ret (pe_and (pe_cmpR op_eq (pe_callB call_len_seq (by rfl) T.len (by decide +kernel) (pa_cons (pv 0) pa_nil)) pe_int (nomark _)) (pe_and (pe_cmpR op_eq (pe_ix ix_tup (pv 0) pe_int (fun _ _ => rfl)) (pe_gs (by rfl) T.ROOM) (nomark _)) (pe_and (C8.pe_c c_is_integer hr (by decide) (by rfl) (pa_cons (pe_ix ix_tup (pv 0) pe_int (fun _ _ => rfl)) pa_nil)) (pe_one (pe_chain op_le op_le pe_int (pe_ix ix_tup (pv 0) pe_int (fun _ _ => rfl)) (pe_gi (by rfl) T.MOST_ROOM)))))))) pss_nil)
        (pss_one (ps_ret (pe_and (pe_callB call_isi (by rfl) T.isinstance (by decide +kernel) (pa_cons (pv 0) (pa_cons (pe_bltn (v := .ty "str") (by rfl) T.str PyProof.Rows.boot_str rfl) pa_nil))) (pe_and (pe_cmpR (op_in_kd W) (pv 0) (pe_gr (by rfl) T.WORDS) (by rfl)) (pe_one (pe_cmpR op_ne (pv 0) (pe_gs (by rfl) T.ROOM) (nomark _)))))))), ?_⟩
  try simp only [cxK, cxK2]
  obtain ⟨v, rfl, hv⟩ := hd.one
  refine q_when (b := isTup x.data) (by walk_at "ev") (fun h H1 e1 => ?_) fun h H1 e1 => ?_
  · obtain ⟨h1, h2⟩ | ⟨n, rfl⟩ := x.words_cases
    · rw [h2] at h
      cases h
    · have hv : Dt K No H v (.tuple [.str "room", .int n]) := hv
      have hd1 : decide (1 ≤ n) = true := decide_eq_true hx.1
      have hd2 : decide (n ≤ 9) = true := decide_eq_true hx.2
      refine sd_ret (d := .bool true) (evd_is (by walk_at "ev") ?_) fun v H2 e => k v H2 (e1.trans e)
      rw [hd1, hd2]
      rfl
  · obtain ⟨h1, h2⟩ | ⟨n, rfl⟩ := x.words_cases
    · rw [h1] at hv
      refine sd_ret (d := .bool true) (evd_is (ed_and (a := true) (by walk_at "ev") fun _ => ed_and (ed_win (T.word x) (by walk_at "ev") ev_c) fun _ => ed_neS (by walk_at "ev") ed_str) ?_) fun v H2 e => k v H2 (e1.trans e)
      cases x <;> first | rfl | cases h1
    · cases h
abbrev spIsDoing (K : PySem.W.Frag) : Sp := spP K 2 fun ds d => ∃ (ss : List Srt) (c : Cl), c.Ok ss ∧ ss.length ≤ 4 ∧ ds = [dSorts ss, .tuple c.doing] ∧ d = .bool true
theorem c_is_doing (T : Tx A0 K w mg) : C8.Cal P w K mg base 4 "is_doing" (spIsDoing K) [] := by
  have c_is_integer := c_is_integer (P := P) (base := base) T
  have c_is_word_of := c_is_word_of (P := P) (base := base) T
  have c_can_give := c_can_give (P := P) (base := base) T
  have c_can_tell := c_can_tell (P := P) (base := base) T
  refine cal_of T.d_is_doing sc_is_doing (fun vs H Q E h => h.1) (fun f cdv A outer s H vs Q E hr h => ?_)
  obtain ⟨hl, ds, d, hd, ⟨ss, c, hc, h4, rfl, rfl⟩, k⟩ := h
  refine ⟨_, (pss_cons (ps_asg (pv 1) (pg_tup rfl (pgs_cons (pg_name (i := 2) sc_is_doing.nd rfl (by first | exact Or.inl rfl | exact Or.inr rfl)) (pgs_cons (pg_name (i := 3) sc_is_doing.nd rfl (by first | exact Or.inl rfl | exact Or.inr rfl)) (pgs_cons (pg_name (i := 4) sc_is_doing.nd rfl (by first | exact Or.inl rfl | exact Or.inr rfl)) (pgs_cons (pg_name (i := 5) sc_is_doing.nd rfl (by first | exact Or.inl rfl | exact Or.inr rfl)) pgs_nil))))))
        (pss_cons (ps_if (PW.pt (pw_or (pt_not (pt_val (C8.pe_c c_is_integer hr (by decide) (by rfl) (pa_cons (pv 2) pa_nil)))) (pw_or (pt_not (pt_chain op_le op_lt pe_int (pv 2) (pe_callB call_len_seq (by rfl) T.len (by decide +kernel) (pa_cons (pv 0) pa_nil)))) (pw_or1 (pt_not (pt_val (C8.pe_c c_is_word_of hr (by decide) (by rfl) (pa_cons (pe_ix ix_tup (pv 0) (pv 2) (fun _ _ => rfl)) (pa_cons (pv 3) pa_nil))))))))) (pss_one (ps_ret pe_bl)) pss_nil)
        (pss_one (ps_ret (pe_and (C8.pe_c c_can_give hr (by decide) (by rfl) (pa_cons (pv 3) (pa_cons (pv 4) pa_nil))) (pe_one (C8.pe_c c_can_tell hr (by decide) (by rfl) (pa_cons (pv 3) (pa_cons (pv 5) pa_nil))))))))), ?_⟩
  try simp only [cxK, cxK2]
  obtain ⟨v, u, rfl, hv, hu⟩ := hd.two
  have hv : Dt K No H v (.tuple (ss.map Srt.data)) := hv
  obtain ⟨i, z, ei, hz, hw⟩ := hc.at_
  have hi : i < ss.length := (List.getElem?_eq_some_iff.mp hz).1
  refine qd_unp4 (d1 := .int c.th) (d2 := .str c.wo) (d3 := c.giv) (d4 := c.told) (by walk_at "ev") fun v1 v2 v3 v4 H1 e1 h1 h2 h3 h4' => ?_
  have hat : atI (ss.map Srt.data) c.th = some z.data := atI_of ei (by rw [List.getElem?_map, hz]; rfl)
  have hin : decide (c.wo ∈ z.words) = true := decide_eq_true hw
  have hrg : (decide (0 ≤ c.th) && decide (c.th < (((ss.map Srt.data).length : Nat) : Int))) = true := by
    rw [ei, List.length_map, decide_eq_true (Int.natCast_nonneg i), decide_eq_true (Int.ofNat_lt.mpr hi)]
    rfl
  have hv1 := hv.ex e1
  refine q_when (b := false) (et_is (et_or (et_not (by walk_at "ev")) fun _ => et_or (et_not (by walk_at "ev")) fun _ => et_not (td_B (ed_call (ead_cons (ed_ixT (by walk_at "ev") (by walk_at "ev") hat) (ead_cons (by walk_at "ev") ead_nil)) ⟨z, c.wo, rfl, rfl⟩ rfl))) ?_) (fun h => nomatch h) fun _ H2 e2 => ?_
  · rw [hrg, hin]
    rfl
  · have h2 := h2.ex e2
    refine sd_ret (d := .bool true) (evd_is (by walk_at "ev") ?_) fun v H3 e => k v H3 ((e1.trans e2).trans e)
    rw [hc.gv, hc.tl]
    rfl
end
end SB
end

section
set_option Elab.async false
set_option linter.all false
set_option maxRecDepth 100000
set_option maxHeartbeats 2000000
set_option autoImplicit false
/-! SbD3: calls, sorts. -/
namespace SB
open PySem PySem.Spec PyProof.Rows L2 Evl
abbrev s_is_call : Stmt := topS 23
abbrev N_is_call : List Str := ["sorts", "thing"]
theorem sc_is_call : FnScope N_is_call ["sorts", "thing"] (C8.fnScope s_is_call) := C8.fnScope_by (by decide +kernel)
abbrev s_are_sorts : Stmt := topS 24
abbrev N_are_sorts : List Str := ["thing", "one"]
theorem sc_are_sorts : FnScope N_are_sorts ["thing"] (C8.fnScope s_are_sorts) := C8.fnScope_by (by decide +kernel)
abbrev s_are_calls : Stmt := topS 27
abbrev N_are_calls : List Str := ["sorts", "thing", "one"]
theorem sc_are_calls : FnScope N_are_calls ["sorts", "thing"] (C8.fnScope s_are_calls) := C8.fnScope_by (by decide +kernel)
local macro_rules | `(tactic| walk_at "sd") => `(tactic| first | with_reducible rfl | assumption | exact SeqD.t | exact SeqD.l | rfl | omega)
local macro_rules | `(tactic| walk_at "dt") => `(tactic| first | assumption | exact Dt.int _ | exact Dt.bl _ | exact Dt.str _ | exact Dt.non | exact Dt.ex (by assumption) (by assumption))
local macro_rules | `(tactic| walk_at "ev") => `(tactic| first
  | assumption
  | with_reducible apply ed_int
  | with_reducible apply ed_str
  | with_reducible apply ed_bl
  | with_reducible apply ed_non
  | with_reducible apply ead_nil
  | with_reducible exact et_yes
  | with_reducible exact eo_none
  | exact evd_var rfl (by walk_at "dt")
  | ((with_reducible apply td_test); walk_at "ev")
  | ((with_reducible apply td_B); walk_at "ev")
  | ((with_reducible apply et_not); walk_at "ev")
  | ((with_reducible apply et_and); walk_at "ev"; intro _; walk_at "ev")
  | ((with_reducible apply et_or); walk_at "ev"; intro _; walk_at "ev")
  | ((with_reducible apply ead_cons); walk_at "ev"; walk_at "ev")
  | ((with_reducible apply eod_some); walk_at "ev")
  | ((with_reducible apply evd_tup); walk_at "ev"; first | decide | (focus (simp; done)) | omega)
  | ((with_reducible apply evd_lst); walk_at "ev"; first | decide | (focus (simp; done)) | omega)
  | ((with_reducible apply ed_not); walk_at "ev")
  | ((with_reducible apply ed_and); walk_at "ev"; intro _; walk_at "ev")
  | ((with_reducible apply ed_or); walk_at "ev"; intro _; walk_at "ev")
  | ((with_reducible apply ed_i0); walk_at "ev"; walk_at "ev")
  | ((with_reducible apply ed_b0); walk_at "ev"; walk_at "ev")
  | ((with_reducible apply ed_eqI); walk_at "ev"; walk_at "ev")
  | ((with_reducible apply ed_eqS); walk_at "ev"; walk_at "ev")
  | ((with_reducible apply ed_eqB); walk_at "ev"; walk_at "ev")
  | ((with_reducible apply ed_neI); walk_at "ev"; walk_at "ev")
  | ((with_reducible apply ed_neS); walk_at "ev"; walk_at "ev")
  | ((with_reducible apply ed_neB); walk_at "ev"; walk_at "ev")
  | ((with_reducible apply ed_isN); walk_at "ev"; walk_at "ev")
  | ((with_reducible apply ed_notN); walk_at "ev"; walk_at "ev")
  | ((with_reducible apply ed_chain); walk_at "ev"; walk_at "ev"; walk_at "ev")
  | ((with_reducible apply ed_ixT); walk_at "ev"; walk_at "ev"; walk_at "sd")
  | ((with_reducible apply ed_ixL); walk_at "ev"; walk_at "ev"; walk_at "sd")
  | ((with_reducible apply ed_isi); walk_at "ev"; (first | exact kit_int _ | exact kit_bool _ | exact kit_tuple _ | exact kit_str _))
  | ((with_reducible apply ed_len); walk_at "ev"; walk_at "sd")
  | ((with_reducible apply ed_call); walk_at "ev"; (first | assumption | exact ⟨_, rfl, rfl⟩ | exact ⟨_, _, rfl, rfl⟩ | exact ⟨_, _, _, rfl, rfl⟩); exact rfl)
  | ((with_reducible apply ed_max2); walk_at "ev"; walk_at "ev")
  | ((with_reducible apply ed_min2); walk_at "ev"; walk_at "ev")
  | ((with_reducible apply ed_list); walk_at "ev"; walk_at "sd")
  | ((with_reducible apply ed_tuple); walk_at "ev"; walk_at "sd")
  | ((with_reducible apply ed_neg); walk_at "ev"))

section
variable {P : Program} {w : World} {K : PySem.W.Frag} {mg : Str → Option Value} {base : Heap} {A0 : Ad}
def stV : Stmt → Expr
  | .Return (some v) _ => v
  | .Assign _ v _ => v
  | _ => .Constant .none 0 ⟨0, 0, 0, 0⟩
def stB : Stmt → List Stmt
  | .While (body := b) .. => b
  | .For (body := b) .. => b
  | _ => []
def lcSc : Expr → Scope
  | .ListComp (scope := s) .. => s
  | _ => ⟨.function, [], false, false, []⟩
theorem et_orT {t u : TT} {σ : L2.St} {H : Hp} (h : EvT t σ H true) : EvT (tOr t u) σ H true := et_is (et_or (b := true) h fun h => nomatch h) rfl
theorem et_andF {t u : TT} {σ : L2.St} {H : Hp} (h : EvT t σ H false) : EvT (tAnd t u) σ H false := et_is (et_and (b := true) h fun h => nomatch h) rfl
theorem isVal_int {i : Int} (h0 : 0 ≤ i) (h1 : i ≤ 1000000) : isVal (.int i) = true := by
  show (decide (0 ≤ i) && decide (i ≤ 1000000)) = true
  rw [decide_eq_true h0, decide_eq_true h1]
  rfl
abbrev spIsCall (K : PySem.W.Frag) : Sp := spP K 2 fun ds d => ∃ (ss : List Srt) (x : PyData), ss.length ≤ 4 ∧ ds = [dSorts ss, x] ∧ ((∃ c : Cl, c.Ok ss ∧ x = c.data ∧ d = .bool true) ∨ (x = .none ∧ d = .bool false))
theorem c_is_call (T : Tx A0 K w mg) : C8.Cal P w K mg base 5 "is_call" (spIsCall K) [] := by
  have c_is_value := c_is_value (P := P) (base := base) T
  have c_is_doing := c_is_doing (P := P) (base := base) T
  refine cal_of T.d_is_call sc_is_call (fun vs H Q E h => h.1) (fun f cdv A outer s H vs Q E hr h => ?_)
  obtain ⟨hl, ds, d, hd, ⟨ss, x, h4, rfl, hx⟩, k⟩ := h
  refine ⟨_, (pss_cons (ps_if (PW.pt (pw_or (pt_not (pt_val (pe_callB call_isi (by rfl) T.isinstance (by decide +kernel) (pa_cons (pv 1) (pa_cons (pe_bltn (v := .ty "tuple") (by rfl) T.tuple PyProof.Rows.boot_tuple rfl) pa_nil))))) (pw_or (pt_cmpR op_ne (pe_callB call_len_seq (by rfl) T.len (by decide +kernel) (pa_cons (pv 1) pa_nil)) pe_int (nomark _)) (pw_or (pt_not (pt_val (C8.pe_c c_is_value hr (by decide) (by rfl) (pa_cons (pe_ix ix_tup (pv 1) pe_int (fun _ _ => rfl)) pa_nil)))) (pw_or1 (pt_not (pt_val (C8.pe_c c_is_value hr (by decide) (by rfl) (pa_cons (pe_ix ix_tup (pv 1) pe_int (fun _ _ => rfl)) pa_nil))))))))) (pss_one (ps_ret pe_bl)) pss_nil)
        (pss_one (ps_ret (pe_and (pe_cmpR op_lt (pe_ix ix_tup (pv 1) pe_int (fun _ _ => rfl)) (pe_ix ix_tup (pv 1) pe_int (fun _ _ => rfl)) (nomark _)) (pe_one (C8.pe_c c_is_doing hr (by decide) (by rfl) (pa_cons (pv 0) (pa_cons (pe_slice sl_tupA (pv 1) (po_some pe_int) po_none) pa_nil)))))))), ?_⟩
  try simp only [cxK, cxK2]
  obtain ⟨v, u, rfl, hv, hu⟩ := hd.two
  rcases hx with ⟨c, hc, rfl, rfl⟩ | ⟨rfl, rfl⟩
  · have hu : Dt K No H u (.tuple [.int c.b, .int c.e, .int c.th, .str c.wo, c.giv, c.told]) := hu
    have v1 : isVal (.int c.b) = true := isVal_int hc.b0 (by have := hc.be; have := hc.e1; omega)
    have v2 : isVal (.int c.e) = true := isVal_int (by have := hc.b0; have := hc.be; omega) hc.e1
    refine q_when (b := false) (et_is (et_or (et_not (by walk_at "ev")) fun _ => et_or (by walk_at "ev") fun _ => et_or (et_not (by walk_at "ev")) fun _ => et_not (by walk_at "ev")) ?_) (fun h => nomatch h) fun _ H1 e1 => ?_
    · rw [v1, v2]
      rfl
    · have hu := hu.ex e1
      have hv := hv.ex e1
      refine sd_ret (d := .bool true) (evd_is (ed_and (a := decide (c.b < c.e)) (by walk_at "ev") fun _ => ed_call (ead_cons (evd_var rfl hv) (ead_cons (evd_slT (lo := some 2) (hi := none) (evd_var rfl hu) (eo_some ev_c) eo_none) ead_nil)) ⟨ss, c, hc, h4, rfl, rfl⟩ rfl) ?_) fun v H3 e => k v H3 (e1.trans e)
      rw [decide_eq_true hc.be]
      rfl
  · exact q_when (b := true) (et_orT (et_is (et_not (by walk_at "ev")) rfl)) (fun _ H1 e1 => sd_ret (d := .bool false) (by walk_at "ev") fun v H3 e => k v H3 (e1.trans e)) fun h => nomatch h
abbrev spAreSorts (K : PySem.W.Frag) : Sp := spP K 1 fun ds d => ∃ (ss : List Srt), 1 ≤ ss.length ∧ ss.length ≤ 4 ∧ (∀ s ∈ ss, s.ok) ∧ ds = [dSorts ss] ∧ d = .bool true
theorem c_are_sorts (T : Tx A0 K w mg) : C8.Cal P w K mg base 3 "are_sorts" (spAreSorts K) [] := by
  have c_is_sort := c_is_sort (P := P) (base := base) T
  refine cal_of T.d_are_sorts sc_are_sorts (fun vs H Q E h => h.1) (fun f cdv A outer s H vs Q E hr h => ?_)
  obtain ⟨hl, ds, d, hd, ⟨ss, h1, h4, hok, rfl, rfl⟩, k⟩ := h
  refine ⟨_, (pss_one (ps_ret (pe_and (pe_callB call_isi (by rfl) T.isinstance (by decide +kernel) (pa_cons (pv 0) (pa_cons (pe_bltn (v := .ty "tuple") (by rfl) T.tuple PyProof.Rows.boot_tuple rfl) pa_nil))) (pe_and (pe_chain op_le op_le pe_int (pe_callB call_len_seq (by rfl) T.len (by decide +kernel) (pa_cons (pv 0) pa_nil)) (pe_gi (by rfl) T.MOST_THINGS)) (pe_one (pe_callB (cr_all rfl) (by rfl) T.all (by decide +kernel) (pa_cons (pe_lc (own := [("one", 1)]) (by rfl) sc_are_sorts.nd (pi_tup (pv 0)) (blkOk_by (N := N_are_sorts) (sc := (C8.fnScope s_are_sorts)) (by decide +kernel)) (fun _ _ _ _ _ => (pg_name (i := 1) sc_are_sorts.nd rfl (by first | exact Or.inl rfl | exact Or.inr rfl))) (fun _ _ _ _ _ => pts_nil) (fun _ _ _ _ _ => (C8.pe_c c_is_sort hr (by decide) (by rfl) (pa_cons (pv 1) pa_nil)))) pa_nil))))))), ?_⟩
  try simp only [cxK, cxK2, List.map_cons, List.map_nil]
  obtain ⟨v, rfl, hv⟩ := hd.one
  have hv : Dt K No H v (.tuple (ss.map Srt.data)) := hv
  refine sd_ret (d := .bool true) (evd_is (ed_and (a := true) (by walk_at "ev") fun _ => ed_and (by walk_at "ev") fun _ => ed_all (lcT_bool (fun _ => true) (evd_var rfl hv) (by rw [List.length_map]; omega) fun d hd x H1 e hx => ?_)) ?_) fun v H3 e => k v H3 e
  · obtain ⟨s, hs, rfl⟩ := List.mem_map.mp hd
    exact ed_call (ead_cons (by walk_at "ev") ead_nil) ⟨s, hok s hs, rfl, rfl⟩ rfl
  · rw [List.length_map, decide_eq_true (by omega), decide_eq_true (by omega)]
    congr 1
    simp
abbrev spAreCalls (K : PySem.W.Frag) : Sp := spP K 2 fun ds d => ∃ (ss : List Srt), ss.length ≤ 4 ∧ ((∃ cs : List Cl, cs.length ≤ 10 ∧ (∀ c ∈ cs, c.Ok ss) ∧ ds = [dSorts ss, dCalls cs] ∧ d = .bool true) ∨ (ds = [dSorts ss, .tuple [.none]] ∧ d = .bool false))
theorem c_are_calls (T : Tx A0 K w mg) : C8.Cal P w K mg base 6 "are_calls" (spAreCalls K) [] := by
  have c_is_call := c_is_call (P := P) (base := base) T
  refine cal_of T.d_are_calls sc_are_calls (fun vs H Q E h => h.1) (fun f cdv A outer s H vs Q E hr h => ?_)
  obtain ⟨hl, ds, d, hd, ⟨ss, h4, hx⟩, k⟩ := h
  refine ⟨_, (pss_one (ps_ret (pe_and (pe_callB call_isi (by rfl) T.isinstance (by decide +kernel) (pa_cons (pv 1) (pa_cons (pe_bltn (v := .ty "tuple") (by rfl) T.tuple PyProof.Rows.boot_tuple rfl) pa_nil))) (pe_and (pe_cmpR op_le (pe_callB call_len_seq (by rfl) T.len (by decide +kernel) (pa_cons (pv 1) pa_nil)) (pe_gi (by rfl) T.MOST_CALLS) (nomark _)) (pe_one (pe_callB (cr_all rfl) (by rfl) T.all (by decide +kernel) (pa_cons (pe_lc (own := [("one", 2)]) (by rfl) sc_are_calls.nd (pi_tup (pv 1)) (blkOk_by (N := N_are_calls) (sc := (C8.fnScope s_are_calls)) (by decide +kernel)) (fun _ _ _ _ _ => (pg_name (i := 2) sc_are_calls.nd rfl (by first | exact Or.inl rfl | exact Or.inr rfl))) (fun _ _ _ _ _ => pts_nil) (fun _ _ _ _ _ => (C8.pe_c c_is_call hr (by decide) (by rfl) (pa_cons (pv 0) (pa_cons (pv 2) pa_nil))))) pa_nil))))))), ?_⟩
  try simp only [cxK, cxK2, List.map_cons, List.map_nil]
  rcases hx with ⟨cs, h10, hok, rfl, rfl⟩ | ⟨rfl, rfl⟩
  · obtain ⟨v, u, rfl, hv, hu⟩ := hd.two
    have hu : Dt K No H u (.tuple (cs.map Cl.data)) := hu
    refine sd_ret (d := .bool true) (evd_is (ed_and (a := true) (by walk_at "ev") fun _ => ed_and (by walk_at "ev") fun _ => ed_all (lcT_bool (fun _ => true) (evd_var rfl hu) (by rw [List.length_map]; omega) fun d hd x H1 e hx => ?_)) ?_) fun v H3 e => k v H3 e
    · obtain ⟨c, hc, rfl⟩ := List.mem_map.mp hd
      have hv := hv.ex e
      exact ed_call (ead_cons (by walk_at "ev") (ead_cons (by walk_at "ev") ead_nil)) ⟨ss, _, h4, rfl, .inl ⟨c, hok c hc, rfl, rfl⟩⟩ rfl
    · rw [List.length_map, decide_eq_true (by omega)]
      congr 1
      simp
  · obtain ⟨v, u, rfl, hv, hu⟩ := hd.two
    refine sd_ret (d := .bool false) (evd_is (ed_and (a := true) (by walk_at "ev") fun _ => ed_and (by walk_at "ev") fun _ => ed_all (lcT_bool (fun _ => false) (evd_var rfl hu) (by decide) fun d hd x H1 e hx => ?_)) ?_) fun v H3 e => k v H3 e
    · obtain rfl := List.mem_singleton.mp hd
      have hv := hv.ex e
      exact ed_call (ead_cons (by walk_at "ev") (ead_cons (by walk_at "ev") ead_nil)) ⟨ss, _, h4, rfl, .inr ⟨rfl, rfl⟩⟩ rfl
    · rfl
end
end SB
end

section
set_option Elab.async false
set_option linter.all false
set_option maxRecDepth 100000
set_option maxHeartbeats 2000000
set_option autoImplicit false
/-! SbD4: what lies ahead, whole orders. -/
namespace SB
open PySem PySem.Spec PyProof.Rows L2 Evl
abbrev s_all_ahead : Stmt := topS 33
abbrev N_all_ahead : List Str := ["calls", "every", "number", "far"]
theorem sc_all_ahead : FnScope N_all_ahead ["calls"] (C8.fnScope s_all_ahead) := C8.fnScope_by (by decide +kernel)
def lcs_all_ahead_11 : Scope := lcSc (stV ((C8.fnBody s_all_ahead).getD 1 (.Pass ⟨0, 0, 0, 0⟩)))
abbrev s_is_order_in : Stmt := topS 35
abbrev N_is_order_in : List Str := ["calls", "value", "ahead", "done", "number", "one"]
theorem sc_is_order_in : FnScope N_is_order_in ["calls", "value"] (C8.fnScope s_is_order_in) := C8.fnScope_by (by decide +kernel)
local macro_rules | `(tactic| walk_at "sd") => `(tactic| first | with_reducible rfl | assumption | exact SeqD.t | exact SeqD.l | rfl | omega)
local macro_rules | `(tactic| walk_at "dt") => `(tactic| first | assumption | exact Dt.int _ | exact Dt.bl _ | exact Dt.str _ | exact Dt.non | exact Dt.ex (by assumption) (by assumption))
local macro_rules | `(tactic| walk_at "ev") => `(tactic| first
  | assumption
  | with_reducible apply ed_int
  | with_reducible apply ed_str
  | with_reducible apply ed_bl
  | with_reducible apply ed_non
  | with_reducible apply ead_nil
  | with_reducible exact et_yes
  | with_reducible exact eo_none
  | exact evd_var rfl (by walk_at "dt")
  | ((with_reducible apply td_test); walk_at "ev")
  | ((with_reducible apply td_B); walk_at "ev")
  | ((with_reducible apply et_not); walk_at "ev")
  | ((with_reducible apply et_and); walk_at "ev"; intro _; walk_at "ev")
  | ((with_reducible apply et_or); walk_at "ev"; intro _; walk_at "ev")
  | ((with_reducible apply ead_cons); walk_at "ev"; walk_at "ev")
  | ((with_reducible apply eod_some); walk_at "ev")
  | ((with_reducible apply evd_tup); walk_at "ev"; first | decide | (focus (simp; done)) | omega)
  | ((with_reducible apply evd_lst); walk_at "ev"; first | decide | (focus (simp; done)) | omega)
  | ((with_reducible apply ed_not); walk_at "ev")
  | ((with_reducible apply ed_and); walk_at "ev"; intro _; walk_at "ev")
  | ((with_reducible apply ed_or); walk_at "ev"; intro _; walk_at "ev")
  | ((with_reducible apply ed_i0); walk_at "ev"; walk_at "ev")
  | ((with_reducible apply ed_b0); walk_at "ev"; walk_at "ev")
  | ((with_reducible apply ed_eqI); walk_at "ev"; walk_at "ev")
  | ((with_reducible apply ed_eqS); walk_at "ev"; walk_at "ev")
  | ((with_reducible apply ed_eqB); walk_at "ev"; walk_at "ev")
  | ((with_reducible apply ed_neI); walk_at "ev"; walk_at "ev")
  | ((with_reducible apply ed_neS); walk_at "ev"; walk_at "ev")
  | ((with_reducible apply ed_neB); walk_at "ev"; walk_at "ev")
  | ((with_reducible apply ed_isN); walk_at "ev"; walk_at "ev")
  | ((with_reducible apply ed_notN); walk_at "ev"; walk_at "ev")
  | ((with_reducible apply ed_chain); walk_at "ev"; walk_at "ev"; walk_at "ev")
  | ((with_reducible apply ed_ixT); walk_at "ev"; walk_at "ev"; walk_at "sd")
  | ((with_reducible apply ed_ixL); walk_at "ev"; walk_at "ev"; walk_at "sd")
  | ((with_reducible apply ed_isi); walk_at "ev"; (first | exact kit_int _ | exact kit_bool _ | exact kit_tuple _ | exact kit_str _))
  | ((with_reducible apply ed_len); walk_at "ev"; walk_at "sd")
  | ((with_reducible apply ed_call); walk_at "ev"; (first | assumption | exact ⟨_, rfl, rfl⟩ | exact ⟨_, _, rfl, rfl⟩ | exact ⟨_, _, _, rfl, rfl⟩); exact rfl)
  | ((with_reducible apply ed_max2); walk_at "ev"; walk_at "ev")
  | ((with_reducible apply ed_min2); walk_at "ev"; walk_at "ev")
  | ((with_reducible apply ed_list); walk_at "ev"; walk_at "sd")
  | ((with_reducible apply ed_tuple); walk_at "ev"; walk_at "sd")
  | ((with_reducible apply ed_neg); walk_at "ev"))

def beforeN (cs : List Cl) (i j : Nat) : Bool :=
  match cs[i]?, cs[j]? with
  | some c, some d => decide (c.e < d.b)
  | _, _ => false
def aheadOf (cs : List Cl) (j : Nat) : List Int := ((List.range cs.length).filter fun i => beforeN cs i j).map fun (i : Nat) => (i : Int)
def areNums (x : PyData) (m : Int) : Bool :=
  match x with
  | .tuple xs => xs.all fun d => isInt d && (decide (0 ≤ toI d) && decide (toI d < m))
  | _ => false
def ordOk (cs : List Cl) : List Int → List Int → Bool
  | _, [] => true
  | done, n :: r => if ((aheadOf cs n.toNat).any fun i => !decide (i ∈ done)) = true then false else ordOk cs (done ++ [n]) r
def itemsOf : PyData → List PyData
  | .tuple xs => xs
  | _ => []
def orderIn (cs : List Cl) (x : PyData) : Bool := areNums x cs.length && (decide ((itemsOf x).length = cs.length) && (decide ((itemsOf x).map toI).Nodup && ordOk cs [] ((itemsOf x).map toI)))
section
variable {P : Program} {w : World} {K : PySem.W.Frag} {mg : Str → Option Value} {base : Heap} {A0 : Ad}
theorem calls_at {cs : List Cl} {i : Nat} {c : Cl} (h : cs[i]? = some c) : atI (cs.map Cl.data) (i : Int) = some c.data := atI_of rfl (by rw [List.getElem?_map, h]; rfl)
theorem data_b (c : Cl) : atI c.items 0 = some (.int c.b) := rfl
theorem data_e (c : Cl) : atI c.items 1 = some (.int c.e) := rfl
abbrev spIsBefore (K : PySem.W.Frag) : Sp := spP K 3 fun ds d => ∃ (cs : List Cl) (i j : Nat), i < cs.length ∧ j < cs.length ∧ ds = [dCalls cs, .int (i : Int), .int (j : Int)] ∧ d = .bool (beforeN cs i j)
theorem c_is_before (T : Tx A0 K w mg) : C8.Cal P w K mg base 1 "is_before" (spIsBefore K) [] := by
  refine cal_of T.d_is_before sc_is_before (fun vs H Q E h => h.1) (fun f cdv A outer s H vs Q E hr h => ?_)
  obtain ⟨hl, ds, d, hd, ⟨cs, i, j, hi, hj, rfl, rfl⟩, k⟩ := h
  refine ⟨_, (pss_one (ps_ret (pe_cmpR op_lt (pe_ix ix_tup (pe_ix ix_tup (pv 0) (pv 1) (fun _ _ => rfl)) pe_int (fun _ _ => rfl)) (pe_ix ix_tup (pe_ix ix_tup (pv 0) (pv 2) (fun _ _ => rfl)) pe_int (fun _ _ => rfl)) (nomark _)))), ?_⟩
  try simp only [cxK, cxK2, List.map_cons, List.map_nil]
  obtain ⟨v, u, z, rfl, hv, hu, hz⟩ := hd.three
  obtain ⟨c, hc⟩ : ∃ c, cs[i]? = some c := ⟨cs[i], by simp [hi]⟩
  obtain ⟨d, hd'⟩ : ∃ c, cs[j]? = some c := ⟨cs[j], by simp [hj]⟩
  have hv : Dt K No H v (.tuple (cs.map Cl.data)) := hv
  have h1 := calls_at hc
  have h2 := calls_at hd'
  refine sd_ret (evd_is (ed_b0 (ed_ixT (ed_ixT (evd_var rfl hv) (evd_var rfl hu) h1) ed_int (data_e c)) (ed_ixT (ed_ixT (evd_var rfl hv) (evd_var rfl hz) h2) ed_int (data_b d))) ?_) k
  unfold beforeN
  rw [hc, hd']
abbrev spAreNumbers (K : PySem.W.Frag) : Sp := spP K 2 fun ds d => ∃ (x : PyData) (m : Int), (itemsOf x).length ≤ 40000 ∧ ds = [x, .int m] ∧ d = .bool (areNums x m)
theorem c_are_numbers (T : Tx A0 K w mg) : C8.Cal P w K mg base 2 "are_numbers" (spAreNumbers K) [] := by
  have c_is_integer := c_is_integer (P := P) (base := base) T
  refine cal_of T.d_are_numbers sc_are_numbers (fun vs H Q E h => h.1) (fun f cdv A outer s H vs Q E hr h => ?_)
  obtain ⟨hl, ds, d, hd, ⟨x, m, hz, rfl, rfl⟩, k⟩ := h
  refine ⟨_, (pss_one (ps_ret (pe_and (pe_callB call_isi (by rfl) T.isinstance (by decide +kernel) (pa_cons (pv 0) (pa_cons (pe_bltn (v := .ty "tuple") (by rfl) T.tuple PyProof.Rows.boot_tuple rfl) pa_nil))) (pe_one (pe_callB (cr_all rfl) (by rfl) T.all (by decide +kernel) (pa_cons (pe_lc (own := [("one", 2)]) (by rfl) sc_are_numbers.nd (pi_tup (pv 0)) (blkOk_by (N := N_are_numbers) (sc := (C8.fnScope s_are_numbers)) (by decide +kernel)) (fun _ _ _ _ _ => (pg_name (i := 2) sc_are_numbers.nd rfl (by first | exact Or.inl rfl | exact Or.inr rfl))) (fun _ _ _ _ _ => pts_nil) (fun _ _ _ _ _ => (pe_and (C8.pe_c c_is_integer hr (by decide) (by rfl) (pa_cons (pv 2) pa_nil)) (pe_one (pe_chain op_le op_lt pe_int (pv 2) (pv 1)))))) pa_nil)))))), ?_⟩
  try simp only [cxK, cxK2, List.map_cons, List.map_nil]
  obtain ⟨v, u, rfl, hv, hu⟩ := hd.two
  refine sd_ret (evd_is (ed_and (a := isTup x) (b := areNums x m) (by walk_at "ev") fun h => ?_) ?_) k
  · obtain ⟨xs, rfl⟩ : ∃ xs, x = .tuple xs := by cases x <;> first | exact ⟨_, rfl⟩ | cases h
    refine evd_is (ed_all (lcT_bool (fun d => isInt d && (decide (0 ≤ toI d) && decide (toI d < m))) (evd_var rfl hv) hz fun d hd y H1 e hy => ?_)) (by rw [List.all_map]; rfl)
    have hu1 := hu.ex e
    refine ed_and (by walk_at "ev") fun hi => ?_
    rw [isInt_is hi] at hy
    walk_at "ev"
  · cases x <;> rfl
/-- lists of what lies ahead -/
def aheadD (cs : List Cl) (j : PyData) : PyData := .list ((aheadOf cs (toI j).toNat).map PyData.int)
abbrev spAllAhead (K : PySem.W.Frag) : Sp := spP K 1 fun ds d => ∃ (cs : List Cl), cs.length ≤ 1000 ∧ ds = [dCalls cs] ∧ d = .list ((rgD 0 cs.length).map (aheadD cs))
theorem noLs_ints : ∀ ns : List Int, noL.noLs (ns.map PyData.int) = true
  | [] => rfl
  | _ :: r => noLs_ints r
theorem filter_rgD (cs : List Cl) (j n : Nat) : (rgD 0 n).filter (fun d => beforeN cs (toI d).toNat j) = (((List.range n).filter fun i => beforeN cs i j).map fun (i : Nat) => (i : Int)).map PyData.int := by
  unfold rgD
  rw [List.filter_map, List.map_map]
  congr 1
  · funext i
    show PyData.int (0 + (i : Int)) = PyData.int (i : Int)
    rw [Int.zero_add]
  · congr 1
    funext i
    show beforeN cs ((0 : Int) + (i : Int)).toNat j = _
    rw [Int.zero_add, Int.toNat_natCast]
theorem rgD_mem {n : Nat} {d : PyData} (h : d ∈ rgD 0 n) : ∃ i : Nat, i < n ∧ d = .int (i : Int) := by
  obtain ⟨i, hi, rfl⟩ := List.mem_map.mp h
  exact ⟨i, List.mem_range.mp hi, by rw [Int.zero_add]⟩
theorem c_all_ahead (T : Tx A0 K w mg) : C8.Cal P w K mg base 2 "all_ahead" (spAllAhead K) [] := by
  have c_is_before := c_is_before (P := P) (base := base) T
  refine cal_of T.d_all_ahead sc_all_ahead (fun vs H Q E h => h.1) (fun f cdv A outer s H vs Q E hr h => ?_)
  obtain ⟨hl, ds, d, hd, ⟨cs, hz, rfl, rfl⟩, k⟩ := h
  refine ⟨_, (pss_cons (ps_set (i := 1) sc_all_ahead.nd rfl (by first | exact Or.inl rfl | exact Or.inr rfl) (pe_listRg rfl (by rfl) T.list (prg_1 (by rfl) T.range (pe_callB call_len_seq (by rfl) T.len (by decide +kernel) (pa_cons (pv 0) pa_nil)))))
        (pss_one (ps_ret (pe_lc (own := [("far", 3)]) (by rfl) sc_all_ahead.nd (pi_list (pv 1)) (blkOk_by (N := N_all_ahead) (sc := (C8.fnScope s_all_ahead)) (by decide +kernel)) (fun _ _ _ _ _ => (pg_name (i := 3) sc_all_ahead.nd rfl (by first | exact Or.inl rfl | exact Or.inr rfl))) (fun _ _ _ _ _ => pts_nil) (fun _ _ _ _ _ => (by (apply pe_lc (own := [("number", 2)])); (focus (exact rfl)); (focus (exact sc_all_ahead.nd)); (focus (exact (show PI _ _ _ (iList K _) from pi_list (pv 1)))); (focus (exact blkOk_by (N := N_all_ahead) (sc := (relS (lcs_all_ahead_11) (C8.fnScope s_all_ahead))) (by decide +kernel))); (focus (exact fun _ _ _ _ _ => (pg_name (i := 2) sc_all_ahead.nd rfl (by first | exact Or.inl rfl | exact Or.inr rfl)))); (focus (exact fun _ _ _ _ _ => (pts_one (pt_val (C8.pe_c c_is_before hr (by decide) (by rfl) (pa_cons (pv 0) (pa_cons (pv 2) (pa_cons (pv 3) pa_nil)))))))); (focus (exact (fun _ _ _ _ _ => (pv 2)))); all_goals first | (intro _; rfl) | skip)))))), ?_⟩
  try simp only [cxK, cxK2, List.map_cons, List.map_nil]
  obtain ⟨v, rfl, hv⟩ := hd.one
  have hv : Dt K No H v (.tuple (cs.map Cl.data)) := hv
  refine qd_asg (ed_listRg (n := cs.length) (evd_is (ed_len (evd_var rfl hv) .t) (by rw [List.length_map])) (by omega)) fun u H1 e1 hu => ?_
  have hv := hv.ex e1
  refine sd_ret (EvN.d (evn_is (evn_lcL (fun _ => true) (aheadD cs) (evd_var rfl hu) (by rw [rgD_len]; omega) fun d hd x H2 e2 hx => ?_) (fm_yes _ _))) fun v2 H2 e2 h2 => k v2 H2 (e1.trans e2) h2
  obtain ⟨j, hj, rfl⟩ := rgD_mem hd
  refine tk_new et_yes (fun _ => evn_is (lcL_fil (fun d => beforeN cs (toI d).toNat j) (evd_var rfl (hu.ex e2)) (by rw [rgD_len]; omega) (show 2 < 4 by decide) fun d hd y H3 e3 hy => ?_) ?_) (noLs_ints _)
  · obtain ⟨i, hi, rfl⟩ := rgD_mem hd
    have hv := (hv.ex e2).ex e3
    have hx := hx.ex e3
    exact td_B (evd_is (ed_call (ead_cons (evd_var rfl hv) (ead_cons (evd_var rfl hy) (ead_cons (evd_var rfl hx) ead_nil))) ⟨cs, i, j, hi, hj, rfl, rfl⟩ rfl) rfl)
  · rw [filter_rgD]
    rfl
/-- are ints unlike -/
theorem nodup_inl (ns : List Int) : ((ns.map Sum.inl : List Key)).Nodup ↔ ns.Nodup := by
  unfold List.Nodup
  rw [List.pairwise_map]
  constructor
  · intro h
    exact h.imp fun a e => a (by rw [e])
  · intro h
    exact h.imp fun a e => a (Sum.inl.inj e)
theorem ed_unlike {σ : L2.St} {H : Hp} {te : TE} {E : XK} {ns : List Int} {d : PyData} (h : EvD K te σ H d) (hs : SeqD (ns.map PyData.int) d) (hz : ns.length ≤ 40000) : EvD K (tCall (spUnlike K) [] E (tCons te tNil)) σ H (.bool (decide ns.Nodup)) := fun H1 a Q q =>
  h H1 a _ fun v H2 b hv => by
    obtain ⟨p, xs, rfl, h1, h2⟩ := hv.toSeq hs
    obtain rfl := h2.toInts
    refine ⟨.ref p, decide ns.Nodup, rfl, ⟨p, _, rfl, h1, by rw [List.length_map]; exact hz, .inl ⟨ns.map Sum.inl, ?_, ?_⟩⟩, fun H3 c => q _ H3 (b.trans c) (.bl _)⟩
    · show ns.map V.int = (ns.map Sum.inl).map kV
      rw [List.map_map]
      rfl
    · rw [decide_eq_true_iff, nodup_inl]
theorem q_parN {σ : L2.St} {H : Hp} {i j : Nat} {ta tb : TE} {d : PyData} {es : List PyData} {D : Ends} {tz : TS} (h : EvD K ta σ H d) (h' : EvN K tb σ H es)
    (k : ∀ v p xs H1 H2, Ex H H1 → Dt K No H1 v d → H1 p = none → Ex H1 H2 → H2 p = some (.lst xs) → DtAll K No H2 xs es → tz D ((σ.set i (some v)).set j (some (.ref p))) H2) : tSeq (tPar i j (tCons ta (tCons tb tNil))) tz D σ H :=
  h.go fun v H1 e1 hv => h' H1 e1 _ fun p xs H2 hp e2 h2 hx => ⟨v, .ref p, rfl, k v p xs H1 H2 e1 hv hp e2 h2 hx⟩
theorem q_tupN {σ : L2.St} {H : Hp} {i j : Nat} {ta tb : TE} {d : PyData} {es : List PyData} {D : Ends} {tz : TS} (h : EvD K ta σ H d) (h' : EvN K tb σ H es)
    (k : ∀ v p xs H1 H2, Ex H H1 → Dt K No H1 v d → H1 p = none → Ex H1 H2 → H2 p = some (.lst xs) → DtAll K No H2 xs es → tz D ((σ.set i (some v)).set j (some (.ref p))) H2) : tSeq (tAsg (tTup (tCons ta (tCons tb tNil))) (gTup K 2 (gCons (gName i) (gCons (gName j) gNil)))) tz D σ H :=
  h.go fun v H1 e1 hv => h' H1 e1 _ fun p xs H2 hp e2 h2 hx => ⟨by show 2 ≤ sizeLine; decide, fun q hq => ⟨q, _, rfl, SqT.of upd_same, rfl, v, _, rfl, .ref p, _, rfl, rfl, k v p xs H1 _ e1 hv hp (e2.trans (Ex.new hq)) (Ex.new hq p _ h2) (hx.ex (Ex.new hq))⟩⟩
theorem areNums_ints {x : PyData} {m : Int} (h : areNums x m = true) : ∃ ns : List Int, x = .tuple (ns.map PyData.int) ∧ (∀ n ∈ ns, 0 ≤ n ∧ n < m) ∧ (itemsOf x).map toI = ns := by
  cases x with
  | tuple xs =>
    have h : xs.all (fun d => isInt d && (decide (0 ≤ toI d) && decide (toI d < m))) = true := h
    rw [List.all_eq_true] at h
    have e : xs = (xs.map toI).map PyData.int := by
      rw [List.map_map]
      conv => lhs; rw [← List.map_id xs]
      exact List.map_congr_left fun d hd => by
        have := h d hd
        rw [Bool.and_eq_true] at this
        exact isInt_is this.1
    refine ⟨xs.map toI, by rw [← e], fun n hn => ?_, rfl⟩
    obtain ⟨d, hd, rfl⟩ := List.mem_map.mp hn
    have := h d hd
    rw [Bool.and_eq_true, Bool.and_eq_true, decide_eq_true_iff, decide_eq_true_iff] at this
    exact this.2
  | none => cases h
  | bool _ => cases h
  | int _ => cases h
  | str _ => cases h
  | list _ => cases h
  | dict _ => cases h
theorem s_appD {σ : L2.St} {H : Hp} {p : Addr} {xs : List V} {ta te : TE} {d : PyData} {D : Ends} (hl : H p = some (.lst xs)) (ha : Ev ta σ H (.ref p)) (h : EvD K te σ H d) (hz : xs.length < 100000) (k : ∀ v H1, Ex H H1 → Dt K No H1 v d → D.nx σ (upd H1 p (.lst (xs ++ [v])))) :
    tDrop (tBM K "list" rAppend ta (tCons te tNil)) D σ H := ha H (Ex.refl H) _ fun H1 e1 =>
  ⟨Or.inl ⟨rfl, xs, sq_of (e1 p _ hl)⟩, h H1 e1 _ fun v H2 e2 hv => ⟨p, xs, v, rfl, rfl, e2 p _ (e1 p _ hl), sz_lt hz, k v H2 (e1.trans e2) hv⟩⟩
theorem q_appD {σ : L2.St} {H : Hp} {p : Addr} {xs : List V} {ta te : TE} {d : PyData} {D : Ends} {tz : TS} (hl : H p = some (.lst xs)) (ha : Ev ta σ H (.ref p)) (h : EvD K te σ H d) (hz : xs.length < 100000) (k : ∀ v H1, Ex H H1 → Dt K No H1 v d → tz D σ (upd H1 p (.lst (xs ++ [v])))) :
    tSeq (tDrop (tBM K "list" rAppend ta (tCons te tNil))) tz D σ H := s_appD (D := { D with nx := tz D }) hl ha h hz k
theorem ordOk_turn {cs : List Cl} {ns : List Int} {i : Nat} {n : Int} (h : ns[i]? = some n) : ordOk cs (ns.take i) (ns.drop i) = if ((aheadOf cs n.toNat).any fun i' => !decide (i' ∈ ns.take i)) = true then false else ordOk cs (ns.take (i + 1)) (ns.drop (i + 1)) := by
  have hi := (List.getElem?_eq_some_iff.mp h).1
  have e : ns.drop i = n :: ns.drop (i + 1) := by
    rw [List.drop_eq_getElem_cons hi]
    congr 1
    rw [List.getElem?_eq_getElem hi] at h
    exact Option.some.inj h
  rw [e, take_snoc h]
  rfl
abbrev spIsOrderIn (K : PySem.W.Frag) : Sp := spP K 2 fun ds d => ∃ (cs : List Cl) (x : PyData), cs.length ≤ 1000 ∧ (itemsOf x).length ≤ 20000 ∧ ds = [dCalls cs, x] ∧ d = .bool (orderIn cs x)
theorem c_is_order_in (T : Tx A0 K w mg) : C8.Cal P w K mg base 3 "is_order_in" (spIsOrderIn K) [] := by
  have c_are_numbers := c_are_numbers (P := P) (base := base) T
  have c_are_unlike := c_are_unlike (P := P) (base := base) T
  have c_all_ahead := c_all_ahead (P := P) (base := base) T
  refine cal_of T.d_is_order_in sc_is_order_in (fun vs H Q E h => h.1) (fun f cdv A outer s H vs Q E hr h => ?_)
  obtain ⟨hl, ds, d, hd, ⟨cs, x, hz, hx, rfl, rfl⟩, k⟩ := h
  refine ⟨_, (pss_cons (ps_if (PW.pt (pw_or (pt_not (pt_val (C8.pe_c c_are_numbers hr (by decide) (by rfl) (pa_cons (pv 1) (pa_cons (pe_callB call_len_seq (by rfl) T.len (by decide +kernel) (pa_cons (pv 0) pa_nil)) pa_nil))))) (pw_or (pt_cmpR op_ne (pe_callB call_len_seq (by rfl) T.len (by decide +kernel) (pa_cons (pv 1) pa_nil)) (pe_callB call_len_seq (by rfl) T.len (by decide +kernel) (pa_cons (pv 0) pa_nil)) (nomark _)) (pw_or1 (pt_not (pt_val (C8.pe_c c_are_unlike hr (by decide) (by rfl) (pa_cons (pv 1) pa_nil)))))))) (pss_one (ps_ret pe_bl)) pss_nil)
        (pss_cons (ps_asg (pe_tup (pa_cons (C8.pe_c c_all_ahead hr (by decide) (by rfl) (pa_cons (pv 0) pa_nil)) (pa_cons (pe_lst pa_nil) pa_nil))) (pg_tup rfl (pgs_cons (pg_name (i := 2) sc_is_order_in.nd rfl (by first | exact Or.inl rfl | exact Or.inr rfl)) (pgs_cons (pg_name (i := 3) sc_is_order_in.nd rfl (by first | exact Or.inl rfl | exact Or.inr rfl)) pgs_nil))))
        (pss_cons (ps_for PassesOwn.never rfl (pi_tup (pv 1)) (pg_name (i := 4) sc_is_order_in.nd rfl (by first | exact Or.inl rfl | exact Or.inr rfl)) (pss_cons (ps_if (pt_val (pe_callB (cr_any rfl) (by rfl) T.any (by decide +kernel) (pa_cons (pe_lc (own := [("one", 5)]) (by rfl) sc_is_order_in.nd (pi_list (pe_ix ix_list (pv 2) (pv 4) (fun _ _ => rfl))) (blkOk_by (N := N_is_order_in) (sc := (C8.fnScope s_is_order_in)) (by decide +kernel)) (fun _ _ _ _ _ => (pg_name (i := 5) sc_is_order_in.nd rfl (by first | exact Or.inl rfl | exact Or.inr rfl))) (fun _ _ _ _ _ => pts_nil) (fun _ _ _ _ _ => (pe_cmpR (show OpR _ _ (rIn K true) from op_notIn_seq) (pv 5) (pv 3) (by rfl)))) pa_nil))) (pss_one (ps_ret pe_bl)) pss_nil)
          (pss_one (ps_expr (pe_bm PySem.F.plainAttrs_list PySem.F.slot_list_append PySem.F.type_list_append mt_append (pv 3) (pa_cons (pv 4) pa_nil))))))
        (pss_one (ps_ret pe_bl))))), ?_⟩
  try simp only [cxK, cxK2, List.map_cons, List.map_nil]
  obtain ⟨v, u, rfl, hv, hu⟩ := hd.two
  have hv : Dt K No H v (.tuple (cs.map Cl.data)) := hv
  have hlen : EvD K (tCB (rLenS K) (tCons (tVar 0) tNil)) (start N_is_order_in [v, u]) H (.int (cs.length : Int)) := evd_is (ed_len (evd_var rfl hv) .t) (by rw [List.length_map])
  cases hA : areNums x cs.length with
  | false =>
    refine q_when (b := true) (et_orT (et_is (et_not (td_B (ed_call (ead_cons (evd_var rfl hu) (ead_cons hlen ead_nil)) ⟨x, _, by omega, rfl, rfl⟩ rfl))) (by rw [hA]; rfl))) (fun _ H1 e1 => sd_ret (d := .bool (orderIn cs x)) (evd_is ed_bl ?_) fun v H2 e => k v H2 (e1.trans e)) fun h => nomatch h
    unfold orderIn
    rw [hA]
    rfl
  | true =>
    obtain ⟨ns, rfl, hn, ens⟩ := areNums_ints hA
    have hx : ns.length ≤ 20000 := by
      have hx : (ns.map PyData.int).length ≤ 20000 := hx
      rwa [List.length_map] at hx
    have eo : orderIn cs (.tuple (ns.map PyData.int)) = (decide (ns.length = cs.length) && (decide ns.Nodup && ordOk cs [] ns)) := by
      unfold orderIn
      rw [hA, ens]
      show (true && (decide ((ns.map PyData.int).length = cs.length) && _)) = _
      rw [List.length_map, Bool.true_and]
    have hlen2 : EvD K (tCB (rLenS K) (tCons (tVar 1) tNil)) (start N_is_order_in [v, u]) H (.int (ns.length : Int)) := evd_is (ed_len (evd_var rfl hu) .t) (by rw [List.length_map])
    have edec : decide ((ns.length : Int) = (cs.length : Int)) = decide (ns.length = cs.length) := decide_eq_decide.mpr ⟨fun h => Int.ofNat.inj h, fun h => by rw [h]⟩
    refine q_when (b := !(decide (ns.length = cs.length) && decide ns.Nodup)) (et_is (et_or (et_not (td_B (ed_call (ead_cons (evd_var rfl hu) (ead_cons hlen ead_nil)) ⟨_, _, by show (ns.map PyData.int).length ≤ _; rw [List.length_map]; omega, rfl, rfl⟩ rfl))) fun _ => et_or (td_test (ed_neI hlen2 hlen)) fun _ => et_not (td_B (ed_unlike (evd_var rfl hu) .t (by omega)))) ?_) (fun h H1 e1 => sd_ret (d := .bool _) (evd_is ed_bl ?_) fun v H2 e => k v H2 (e1.trans e)) fun h H1 e1 => ?_
    · rw [hA, edec]
      cases decide (ns.length = cs.length) <;> cases decide ns.Nodup <;> rfl
    · rw [eo]
      have h : (decide (ns.length = cs.length) && decide ns.Nodup) = false := by
        rw [Bool.not_eq_true'] at h
        exact h
      rw [← Bool.and_assoc, h]
      rfl
    · have h : (decide (ns.length = cs.length) && decide ns.Nodup) = true := by
        rw [Bool.not_eq_false'] at h
        exact h
      have eo2 : orderIn cs (.tuple (ns.map PyData.int)) = ordOk cs [] ns := by
        rw [eo, ← Bool.and_assoc, h, Bool.true_and]
      have hv := hv.ex e1
      have hu := hu.ex e1
      refine q_tupN (es := []) (ed_call (ead_cons (evd_var rfl hv) ead_nil) ⟨cs, hz, rfl, rfl⟩ rfl) (evn_lst ead_nil (by decide)) fun va p xs H2 H3 e2 hva hp e3 h3 hxs => ?_
      cases hxs
      obtain ⟨a, ys, rfl, hs, hd⟩ := (hu.ex e2).toTup
      obtain rfl := hd.toInts
      refine q_forT (ev_var rfl) (ex_t e3 hs) (fun i σ' H' => (∃ o, σ' = List.set (((start N_is_order_in [v, .ref a]).set 2 (some va)).set 3 (some (.ref p))) 4 o) ∧ Ex H2 H' ∧ H' p = some (.lst ((ns.take i).map V.int)) ∧ ordOk cs (ns.take i) (ns.drop i) = ordOk cs [] ns) (fun H4 e4 => ⟨⟨none, rfl⟩, e3.trans e4, e4 p _ h3, rfl⟩) (fun i σ' H' _ q => ex_t q.2.1 hs) (fun i x σ' H' hi q => ?_) fun σ' H' q => ?_
      · obtain ⟨⟨o, rfl⟩, eH, hp', ho⟩ := q
        rw [List.getElem?_map, Option.map_eq_some_iff] at hi
        obtain ⟨n, hni, rfl⟩ := hi
        have hm : n ∈ ns := List.mem_of_getElem? hni
        have hb := hn n hm
        show tSeq _ _ _ ((List.set (((start N_is_order_in [v, .ref a]).set 2 (some va)).set 3 (some (.ref p))) 4 o).set 4 (some (.int n))) H'
        rw [List.set_set]
        have hlt : n.toNat < cs.length := by omega
        have hat : atI ((rgD 0 cs.length).map (aheadD cs)) n = some (.list ((aheadOf cs n.toNat).map PyData.int)) := by
          refine atI_of (j := n.toNat) (by omega) ?_
          rw [List.getElem?_map, rgD_get hlt]
          show some (aheadD cs (.int (0 + ((n.toNat : Nat) : Int)))) = _
          unfold aheadD
          show some (PyData.list ((aheadOf cs ((0 + ((n.toNat : Nat) : Int)).toNat)).map PyData.int)) = _
          rw [Int.zero_add, Int.toNat_natCast]
        have hva' := hva.ex eH
        have hdone : Dt K No H' (.ref p) (.list ((ns.take i).map PyData.int)) := .lst hp' (fun z => z) (DtAll.ints _)
        have hal : (aheadOf cs n.toNat).length ≤ cs.length := by
          unfold aheadOf
          rw [List.length_map]
          have := List.length_filter_le (fun i => beforeN cs i n.toNat) (List.range cs.length)
          rw [List.length_range] at this
          exact this
        refine q_when (b := (aheadOf cs n.toNat).any fun i' => !decide (i' ∈ ns.take i)) (et_is (td_B (ed_any (lcL_bool (fun d => !decide (toI d ∈ ns.take i)) (evd_ixL (evd_var rfl hva') (ev_var rfl) hat) (by rw [List.length_map]; omega) fun d hd y H5 e5 hy => ?_))) ?_) (fun hb' H5 e5 => ?_) fun hb' H5 e5 => ?_
        · obtain ⟨m, hm, rfl⟩ := List.mem_map.mp hd
          exact ed_niI (evd_var rfl hy) (evd_var rfl (hdone.ex e5)) .l
        · rw [List.map_map, List.any_map]
          rfl
        · refine sd_ret (d := .bool _) (evd_is ed_bl ?_) fun v H6 e => k v H6 ((((e1.trans e2).trans eH).trans e5).trans e)
          rw [eo2, ← ho, ordOk_turn hni, if_pos hb']
        · refine s_appD (e5 p _ hp') (ev_var rfl) (evd_var (d := .int n) rfl (.int n)) (by rw [List.length_map, List.length_take]; omega) fun v' H6 e6 hv' => ⟨⟨_, rfl⟩, Ex.mut ((eH.trans e5).trans e6) hp, ?_, ?_⟩
          · rw [upd_same, hv'.toInt, take_snoc hni, List.map_append]
            rfl
          · rw [← ho, ordOk_turn hni, if_neg (by rw [hb']; decide)]
      · obtain ⟨_, eH, _, ho⟩ := q
        refine sd_ret (d := .bool _) (evd_is ed_bl ?_) fun v H6 e => k v H6 (((e1.trans e2).trans eH).trans e)
        rw [eo2, ← ho, List.length_map, List.drop_length]
        rfl
end
end SB
end

section
set_option Elab.async false
set_option linter.all false
set_option maxRecDepth 100000
set_option maxHeartbeats 2000000
set_option autoImplicit false
/-! SbW: comprehensions and loops over anything that walks over data; pairs. -/
namespace SB
open PySem PySem.Spec PyProof.Rows L2 Evl
section
variable {K : PySem.W.Frag} {σ : L2.St} {H H' H0 H1 : Hp} {tl te ta tb : TE} {t : TT} {d e : PyData}
/-- what is asked of a target: it takes an item that is d -/
def TkW (K : PySem.W.Frag) (σ : L2.St) (gt : TG) (t : TT) (te : TE) (vs : List Nat) (H0 : Hp) (d : PyData) (b : Bool) (e : PyData) : Prop :=
  ∀ x H', Ex H0 H' → Dt K No H' x d → ∀ R : L2.St → Hp → Prop, (∀ σ2 H2, Ex H' H2 → wipe σ2 vs = wipe σ vs → EvT t σ2 H2 b → (b = true → ∀ Dl acc, H0 Dl = none → H2 Dl = some (.lst acc) → EvB K Dl te σ2 H2 e) → R σ2 H2) → gt x (wipe σ vs) H' R
/-- the items that J gives are the data ds -/
structure WalkD (K : PySem.W.Frag) (J : It) (H1 : Hp) (ds : List PyData) : Prop where
  goes : ∀ i H, i < ds.length → Ex H1 H → J.go i H
  stops : ∀ H, Ex H1 H → J.stop ds.length H
  yields : ∀ i d H x H', ds[i]? = some d → Ex H1 H → J.yld i H x H' → Ex H H' ∧ Dt K No H' x d
theorem yat_data {xs : List V} {ds : List PyData} {H' : Hp} {i : Nat} {x : V} {d : PyData} (hd : DtAll K No H1 xs ds) (hi : ds[i]? = some d) (z : Ex H1 H) (ye : H' = H ∧ xs[i]? = some x) : Ex H H' ∧ Dt K No H' x d := by
  obtain ⟨rfl, ye⟩ := ye
  obtain ⟨v, hv, hx⟩ := hd.at hi
  rw [ye] at hv
  obtain rfl := Option.some.inj hv
  exact ⟨Ex.refl _, hx.ex z⟩
theorem WalkD.l {a : Addr} {xs : List V} {ds : List PyData} (h : SqL K H1 a xs) (hd : DtAll K No H1 xs ds) : WalkD K (Itl K a) H1 ds := by
  have e := hd.len
  refine ⟨fun i H hi x => walk_list.goes i H (by rw [e]; exact hi) (ex_l x h), fun H x => ?_, fun i d H x H' hi z y => yat_data hd hi z (walk_list.yields i H x H' (by rw [e]; exact (List.getElem?_eq_some_iff.mp hi).1) (ex_l z h) y)⟩
  rw [← e]
  exact walk_list.stops H (ex_l x h)
theorem WalkD.tp {a : Addr} {xs : List V} {ds : List PyData} (h : SqT K H1 a xs) (hd : DtAll K No H1 xs ds) : WalkD K (Itt K a) H1 ds := by
  have e := hd.len
  refine ⟨fun i H hi x => walk_tup.goes i H (by rw [e]; exact hi) (ex_t x h), fun H x => ?_, fun i d H x H' hi z y => yat_data hd hi z (walk_tup.yields i H x H' (by rw [e]; exact (List.getElem?_eq_some_iff.mp hi).1) (ex_t z h) y)⟩
  rw [← e]
  exact walk_tup.stops H (ex_t x h)
/-- pairs of items -/
def zipD (xs ys : List PyData) : List PyData := (xs.zip ys).map fun p => .tuple [p.1, p.2]
theorem zipD_get {xs ys : List PyData} {i : Nat} {d : PyData} (h : (zipD xs ys)[i]? = some d) : ∃ x y, xs[i]? = some x ∧ ys[i]? = some y ∧ d = .tuple [x, y] := by
  unfold zipD at h
  rw [List.getElem?_map, Option.map_eq_some_iff] at h
  obtain ⟨p, hp, rfl⟩ := h
  rw [List.getElem?_zip_eq_some] at hp
  exact ⟨p.1, p.2, hp.1, hp.2, rfl⟩
theorem zipD_len (xs ys : List PyData) : (zipD xs ys).length = min xs.length ys.length := by
  unfold zipD
  rw [List.length_map, List.length_zip]
theorem pair_data {x y : V} {d1 d2 : PyData} {T : Addr} (hT : H T = none) (hx : Dt K No H x d1) (hy : Dt K No H y d2) : Ex H (upd H T (.tup [x, y])) ∧ Dt K No (upd H T (.tup [x, y])) (.ref T) (.tuple [d1, d2]) :=
  ⟨Ex.new hT, .tup (SqT.of upd_same) (.cons (hx.ex (Ex.new hT)) (.cons (hy.ex (Ex.new hT)) .nil))⟩
theorem WalkD.zipT {a b : Addr} {xs ys : List V} {ds es : List PyData} (h : SqT K H1 a xs) (hd : DtAll K No H1 xs ds) (h' : SqT K H1 b ys) (he : DtAll K No H1 ys es) : WalkD K (RZ.ItzT K a b) H1 (zipD ds es) := by
  have e1 := hd.len
  have e2 := he.len
  refine ⟨fun i H hi z => ?_, fun H z => ⟨xs, ys, ex_t z h, ex_t z h', by rw [zipD_len, e1, e2]; omega⟩, fun i d H x H' hi z y => ?_⟩
  · rw [zipD_len] at hi
    have i1 : i < xs.length := by omega
    have i2 : i < ys.length := by omega
    exact ⟨xs, ys, xs[i], ys[i], ex_t z h, ex_t z h', by simp [i1], by simp [i2]⟩
  · obtain ⟨T, u, v, rfl, hT, rfl, hu, hv⟩ := y
    obtain ⟨d1, d2, h1, h2, rfl⟩ := zipD_get hi
    obtain ⟨u', hu', hx⟩ := hd.at h1
    obtain ⟨v', hv', hy⟩ := he.at h2
    rw [hu xs (ex_t z h)] at hu'
    rw [hv ys (ex_t z h')] at hv'
    obtain rfl := Option.some.inj hu'
    obtain rfl := Option.some.inj hv'
    exact pair_data hT (hx.ex z) (hy.ex z)
/-- numbered items -/
def enumD (ds : List PyData) : List PyData := zipD (rgD 0 ds.length) ds
theorem enumD_len (ds : List PyData) : (enumD ds).length = ds.length := by
  unfold enumD
  rw [zipD_len, rgD_len, Nat.min_self]
theorem enumD_get {ds : List PyData} {i : Nat} {d : PyData} (h : ds[i]? = some d) : (enumD ds)[i]? = some (.tuple [.int (i : Int), d]) := by
  unfold enumD zipD
  rw [List.getElem?_map, show ((rgD 0 ds.length).zip ds)[i]? = some (PyData.int (i : Int), d) from List.getElem?_zip_eq_some.mpr ⟨?_, h⟩]
  · rfl
  · rw [rgD_get (List.getElem?_eq_some_iff.mp h).1, Int.zero_add]
theorem enumD_at {ds : List PyData} {i : Nat} {e : PyData} (h : (enumD ds)[i]? = some e) : ∃ d, ds[i]? = some d ∧ e = .tuple [.int (i : Int), d] := by
  obtain ⟨x, y, h1, h2, rfl⟩ := zipD_get h
  rw [rgD_get (List.getElem?_eq_some_iff.mp h2).1, Int.zero_add] at h1
  exact ⟨y, h2, by rw [← Option.some.inj h1]⟩
theorem WalkD.enumL {a : Addr} {xs : List V} {ds : List PyData} (h : SqL K H1 a xs) (hd : DtAll K No H1 xs ds) : WalkD K (Ite K a) H1 (enumD ds) := by
  have e := hd.len
  refine ⟨fun i H hi x => walk_enum.goes i H (by rw [e, ← enumD_len]; exact hi) (ex_l x h), fun H x => ?_, fun i d H x H' hi z y => ?_⟩
  · rw [enumD_len, ← e]
    exact walk_enum.stops H (ex_l x h)
  · obtain ⟨T, u, v, rfl, hT, rfl, hu, hv⟩ := walk_enum.yields i H x H' (by rw [e, ← enumD_len]; exact (List.getElem?_eq_some_iff.mp hi).1) (ex_l z h) y
    obtain ⟨d, hdi, rfl⟩ := enumD_at hi
    obtain ⟨v', hv', hy⟩ := hd.at hdi
    have hv : xs[i]? = some v := hv
    rw [hv] at hv'
    obtain rfl := Option.some.inj hv'
    obtain rfl := Option.some.inj hu
    exact pair_data hT (.int _) (hy.ex z)
/-- a comprehension over it -/
theorem evn_it {J : It} {gt : TG} {vs : List Nat} {ds : List PyData} {HA : Hp} {Q : VK} (f : PyData → Bool) (g : PyData → PyData) (a : Ex HA H1) (w : WalkD K J H1 ds) (hz : ds.length ≤ 40000)
    (q : ∀ p xs H2, HA p = none → Ex HA H2 → H2 p = some (.lst xs) → DtAll K No H2 xs (fm f g ds) → Q (.ref p) H2) (tk : ∀ d ∈ ds, TkW K σ gt t te vs H1 d (f d) (g d)) :
    ∀ Dl, H1 Dl = none → ∃ W : Nat → Nat → Hp → Prop, (∃ m, W 0 m (upd H1 Dl (.lst []))) ∧ ∀ i m H, W i m H →
      (J.stop i H ∧ Q (.ref Dl) H) ∨ (J.go i H ∧ ∃ Nx : Hp → Prop, (∀ H', Nx H' → ∃ m', m' < m ∧ W (i + 1) m' H') ∧ ∀ x H', J.yld i H x H' → gt x (wipe σ vs) H' fun σ2 H2 => wipe σ2 vs = wipe σ vs ∧ t σ2 H2 fun b H3 =>
        if b = true then te σ2 H3 fun y H4 => ∃ acc, H4 Dl = some (.lst acc) ∧ acc.length < sizeLine ∧ Nx (upd H4 Dl (.lst (acc ++ [y]))) else Nx H3) := fun Dl hD => by
  have wk : Walk J ds.length (fun H => Ex H1 H) (fun i H x H' => ∃ d, ds[i]? = some d ∧ Ex H H' ∧ Dt K No H' x d) := ⟨fun i H hi x => w.goes i H hi x, fun H x => w.stops H x, fun i H x H' hi z y => ⟨ds[i], by simp [hi], w.yields i ds[i] H x H' (by simp [hi]) z y⟩⟩
  refine lc_it wk (Ci K H1 f g ds Dl) (ci_start hD) (fun i H _ c => c.ex) (fun i x H H' hi c y => ?_) fun H c => ci_end a q ds.length (Nat.le_refl _) c
  obtain ⟨d, hd, eH, hx⟩ := y
  have c1 := c.up eH
  refine tk d (List.mem_of_getElem? hd) x H' c1.ex hx _ fun σ2 H2 e2 hw ht he => ⟨hw, ?_⟩
  unfold Ci
  rw [take_snoc hd, fm_snoc]
  have p2 := c1.up e2
  obtain ⟨acc, h1, _⟩ := id p2.acc
  exact Cd.turn p2 (by omega) ht fun hb => he hb Dl acc p2.new h1
/-- a pair as target -/
theorem tkw_pair {i j : Nat} {d1 d2 : PyData} {b : Bool} (hw : ∀ v1 v2, wipe (((wipe σ [i, j]).set i (some v1)).set j (some v2)) [i, j] = wipe σ [i, j])
    (ht : ∀ v1 v2 H', Ex H0 H' → Dt K No H' v1 d1 → Dt K No H' v2 d2 → EvT t (((wipe σ [i, j]).set i (some v1)).set j (some v2)) H' b)
    (he : b = true → ∀ v1 v2 H', Ex H0 H' → Dt K No H' v1 d1 → Dt K No H' v2 d2 → EvD K te (((wipe σ [i, j]).set i (some v1)).set j (some v2)) H' e) (n : b = true → noL e = true) :
    TkW K σ (gTup K 2 (gCons (gName i) (gCons (gName j) gNil))) t te [i, j] H0 (.tuple [d1, d2]) b e := fun x H' a hx R k => by
  obtain ⟨p, xs, rfl, hs, hd⟩ := hx.toTup
  obtain ⟨v1, v2, rfl, h1, h2⟩ := hd.two
  exact ⟨p, _, rfl, hs, rfl, v1, _, rfl, v2, _, rfl, rfl, k _ H' (Ex.refl H') (hw v1 v2) (ht v1 v2 H' a h1 h2) fun hb Dl acc _ _ => EvB.of (he hb v1 v2 H' a h1 h2) (n hb)⟩
/-- over zip of two tuples -/
theorem evn_lcZipT {gt : TG} {vs : List Nat} {ds es : List PyData} (f : PyData → Bool) (g : PyData → PyData) (h : EvD K ta σ H (.tuple ds)) (h' : EvD K tb σ H (.tuple es)) (hz : ds.length ≤ 40000)
    (tk : ∀ d ∈ zipD ds es, ∀ H1, Ex H H1 → TkW K σ gt t te vs H1 d (f d) (g d)) : EvN K (tLc (RZ.iZipA K (tCons ta (tCons tb tNil))) gt t te vs) σ H (fm f g (zipD ds es)) := fun H0 a Q q =>
  h H0 a _ fun x H1 b hx => h' H1 (a.trans b) _ fun y H2 c hy => by
    obtain ⟨p, xs, rfl, hs, hd⟩ := (hx.ex c).toTup
    obtain ⟨p', ys, rfl, hs', hd'⟩ := hy.toTup
    exact ⟨p, p', xs, ys, rfl, .inr ⟨hs, hs', evn_it f g (b.trans c) (WalkD.zipT hs hd hs' hd') (by rw [zipD_len]; omega) q fun d hd => tk d hd H2 ((a.trans b).trans c)⟩⟩
end
end SB
end

section
set_option Elab.async false
set_option linter.all false
set_option maxRecDepth 100000
set_option maxHeartbeats 2000000
set_option autoImplicit false
/-! SbX: defs that raise; the own errors. -/
namespace SB
open PySem PySem.Spec PyProof.Rows L2 Evl

/-- a def that may raise, by its name -/
structure CalX (P : Program) (w : World) (K : PySem.W.Frag) (mg : Str → Option Value) (base : Heap) (k : Nat) (x : Str) (sp : Sp) : Prop where
  ex : ∃ (f : Addr) (fd : FuncData) (ps : List Str), FnOk P w K mg base (L2.CX P w) k f fd ps sp ∧ mg x = some (.ref f) ∧ PySem.W.keepIn K (.ref f) = true ∧ Binds K fd ps []
section
variable {P : Program} {w : World} {K : PySem.W.Frag} {mg : Str → Option Value} {base : Heap}
theorem calX_of {x : Str} {st : Stmt} {N ps : List Str} {k : Nat} {sp : Sp} (D : DF K mg x st ps) (S : FnScope N ps (C8.fnScope st)) (len : ∀ vs H Q E, sp vs H Q E → vs.length = ps.length)
    (hbody : ∀ (f : Addr) (cdv : Value) (A : Around) (outer : List Env) (s : Shared) (H : Hp) (vs : List V) (Q : VK) (E : XK), Room k (A.deeper (envOfC x (C8.fnScope st) s.heap.objs.size f cdv)) → sp vs H Q E →
      Takes (cxOf (L2.CX P w) P w K mg base N x (C8.fnScope st) f cdv A outer s H E) (fun cls d _ H' => E cls d H') →
      ∃ t, PSs (cxOf (L2.CX P w) P w K mg base N x (C8.fnScope st) f cdv A outer s H E) (C8.fnBody st) t ∧ t { nx := fun _ H' => Q .non H', rt := Q } (start N vs) H) : CalX P w K mg base (k + 1) x sp := by
  obtain ⟨f, fd, F, b⟩ := D.ex
  obtain ⟨oc, od, dV, kV, doc, pm, an, cdv, ct, osl, rfl, lk, hcd⟩ := F.fn.ex
  exact ⟨f, _, ps, fn_of lk hcd S len fun A outer s H vs Q E hr hsp => hbody f cdv A outer s H vs Q E hr hsp (takes_of rfl rfl rfl rfl), F.mgf, F.kp, b⟩
end
section
variable {X : Cx} {k j : Nat} {x : Str} {sp : Sp} {W : WX} {E : XK} {p pos : Pos} {e : Expr} {es : List Expr} {ta te : TE} {t : TA}
theorem pe_cX (c : CalX X.prog X.w X.K X.mg X.base k x sp) (hr : Room j X.A) (tk : Takes X W) (hW : ∀ cls d σ H, E cls d H → W cls d σ H) (hk : k ≤ j) (hg : Gl X x) (ha : PA X (e :: es) t)
    (hdb : (x == ("__debug__" : Str)) = false := by decide) (he : starEach (e :: es) X.env = (false, eval e X.env) :: starEach es X.env := by rfl) (hpl : (backTo pos (starEach es X.env)).any (·.1) = false := by rfl) :
    PE X (.Call (.Name x p) (e :: es) [] pos) (tCall sp [] E t) := by
  obtain ⟨f, fd, ps, F, hm, kp, b⟩ := c.ex
  exact pe_call F (hr.mono hk) hg hm kp b .nil (passes_call tk hW) ha hdb he hpl
end
/-- the own error with given = y, as an exception -/
def XGiv (d : Addr) (y : V) (H' : Hp) : Prop := H' d = some (.xd [("given", y)])
def spInit (K : PySem.W.Frag) (C : Addr) : Sp := fun vs H Q _ => ∃ a y, vs = [.ref a, y] ∧ H a = some (exo a C none) ∧ ∀ dx, H dx = none → dx ≠ a → Q .non (upd (upd H dx (exd dx [("given", y)])) a (exo a C (some dx)))
/-- raise C(e) -/
def tRz (K : PySem.W.Frag) (C : Addr) (W : WX) (te : TE) : TS := fun _ σ H => tMkO C (spInit K C) [] (tCons te tNil) σ H fun cls d H' => W cls d σ H'
theorem s_rz {K : PySem.W.Frag} {C : Addr} {W : WX} {te : TE} {D : Ends} {σ : L2.St} {H : Hp} {d : PyData} (h : EvD K te σ H d) (k : ∀ dd y H', Ex H H' → XGiv dd y H' → Dt K No H' y d → W (.ref C) (some dd) σ H') : tRz K C W te D σ H :=
  h.go fun y H1 e1 hy => ⟨by show 1 ≤ 1000; decide, fun a ha => ⟨a, y, rfl, upd_same, fun dx h1 h2 => by
    have n1 : H1 dx = none := by
      rw [upd_ne h2] at h1
      exact h1
    refine ⟨rfl, dx, _, upd_same, by rw [upd_ne h2, upd_same], n1, ?_⟩
    have e2 : Ex H1 (upd (del (upd (upd (upd H1 a (exo a C none)) dx (exd dx [("given", y)])) a (exo a C (some dx))) a) dx (.xd [("given", y)])) := fun b o hb => by
      have b1 : b ≠ dx := ne_of_none hb n1
      have b2 : b ≠ a := ne_of_none hb ha
      rw [upd_ne b1, del_ne b2, upd_ne b2, upd_ne b1, upd_ne b2]
      exact hb
    exact k dx y _ (e1.trans e2) upd_same (hy.ex e2)⟩⟩
section
variable {P : Program} {w : World} {K : PySem.W.Frag} {mg : Str → Option Value} {base : Heap}
/-- the __init__ of an own error -/
theorem fn_init {x : Str} {C f : Addr} {st : Stmt} (T : Er K mg x C f st) (S : FnScope ["self", "given"] ["self", "given"] (C8.fnScope st)) (kd : (C8.fnScope st).names.lookup ("self" : Str) = some .local) (kd2 : (C8.fnScope st).names.lookup ("given" : Str) = some .local)
    {p1 p2 p3 p4 : Pos} (hb : C8.fnBody st = [.Assign [.Attribute (.Name "self" p1) "given" p2] (.Name "given" p3) p4]) : ∃ fd, FnOk P w K mg base C8.CX0 1 f fd ["self", "given"] (spInit K C) ∧ Binds K fd ["self", "given"] [] := by
  obtain ⟨fd, F, b⟩ := T.fn
  refine ⟨fd, C8.fn0 F S (fun vs H Q E h => by obtain ⟨a, y, rfl, _⟩ := h; rfl) (fun cdv A outer s H vs Q E hr h => ?_), b⟩
  obtain ⟨a, y, rfl, ha, k⟩ := h
  rw [hb]
  refine ⟨_, pss_one (ps_ost (pe_var (i := 0) rfl (.inl kd)) (pe_var (i := 1) rfl (.inl kd2))), ?_⟩
  exact ⟨y, rfl, .ref a, rfl, a, C, rfl, T.oex, T.no, .inl ⟨ha, fun dx h1 h2 => k dx h1 h2⟩⟩
end
section
variable {X : Cx} {x : Str} {C f : Addr} {st : Stmt} {e : Expr} {te : TE} {p1 p2 p3 : Pos} {W : WX} {j : Nat} {CX' : CXT}
theorem ps_rz (T : Er X.K X.mg x C f st) (F : ∃ fd, FnOk X.prog X.w X.K X.mg X.base C8.CX0 1 f fd ["self", "given"] (spInit X.K C) ∧ Binds X.K fd ["self", "given"] []) (hc : X.calm = true) (tk : Takes X W) (hr : Room j X.A) (hj : 2 ≤ j) (hg : Gl X x) (he : PE X e te)
    (hdb : (x == ("__debug__" : Str)) = false := by decide) (hs : starEach [e] X.env = (false, eval e X.env) :: starEach [] X.env := by rfl) (hpl : (backTo p2 (starEach [] X.env)).any (·.1) = false := by rfl) :
    PS X (.Raise (some (.Call (.Name x p1) [e] [] p2)) none p3) (tRz X.K C W te) := by
  obtain ⟨fd, F, b⟩ := F
  exact ps_raise (pos := p3) hc tk (pmk_oex T.oex T.iC T.tI F (hr.mono hj) b .nil C8.pass0 hg T.gC (pa_cons he pa_nil hs) hdb hs hpl)
end
end SB
end

section
set_option Elab.async false
set_option linter.all false
set_option maxRecDepth 100000
set_option maxHeartbeats 2000000
set_option autoImplicit false
/-! SbD5: is it a history? -/
namespace SB
open PySem PySem.Spec PyProof.Rows L2 Evl
abbrev s_givers_of : Stmt := topS 26
abbrev N_givers_of : List Str := ["doings", "thing", "word", "given", "told"]
theorem sc_givers_of : FnScope N_givers_of ["doings"] (C8.fnScope s_givers_of) := C8.fnScope_by (by decide +kernel)
abbrev s_are_in_time : Stmt := topS 28
abbrev N_are_in_time : List Str := ["calls", "moments", "call", "near", "far"]
theorem sc_are_in_time : FnScope N_are_in_time ["calls"] (C8.fnScope s_are_in_time) := C8.fnScope_by (by decide +kernel)
abbrev s_fault_of : Stmt := topS 29
abbrev N_fault_of : List Str := ["thing", "one", "call"]
theorem sc_fault_of : FnScope N_fault_of ["thing"] (C8.fnScope s_fault_of) := C8.fnScope_by (by decide +kernel)
abbrev s_need_history : Stmt := topS 30
abbrev N_need_history : List Str := ["thing", "fault"]
theorem sc_need_history : FnScope N_need_history ["thing"] (C8.fnScope s_need_history) := C8.fnScope_by (by decide +kernel)
local macro_rules | `(tactic| walk_at "sd") => `(tactic| first | with_reducible rfl | assumption | exact SeqD.t | exact SeqD.l | rfl | omega)
local macro_rules | `(tactic| walk_at "dt") => `(tactic| first | assumption | exact Dt.int _ | exact Dt.bl _ | exact Dt.str _ | exact Dt.non | exact Dt.ex (by assumption) (by assumption))
local macro_rules | `(tactic| walk_at "ev") => `(tactic| first
  | assumption
  | with_reducible apply ed_int
  | with_reducible apply ed_str
  | with_reducible apply ed_bl
  | with_reducible apply ed_non
  | with_reducible apply ead_nil
  | with_reducible exact et_yes
  | with_reducible exact eo_none
  | exact evd_var rfl (by walk_at "dt")
  | ((with_reducible apply td_test); walk_at "ev")
  | ((with_reducible apply td_B); walk_at "ev")
  | ((with_reducible apply et_not); walk_at "ev")
  | ((with_reducible apply et_and); walk_at "ev"; intro _; walk_at "ev")
  | ((with_reducible apply et_or); walk_at "ev"; intro _; walk_at "ev")
  | ((with_reducible apply ead_cons); walk_at "ev"; walk_at "ev")
  | ((with_reducible apply eod_some); walk_at "ev")
  | ((with_reducible apply evd_tup); walk_at "ev"; first | decide | (focus (simp; done)) | omega)
  | ((with_reducible apply evd_lst); walk_at "ev"; first | decide | (focus (simp; done)) | omega)
  | ((with_reducible apply ed_not); walk_at "ev")
  | ((with_reducible apply ed_and); walk_at "ev"; intro _; walk_at "ev")
  | ((with_reducible apply ed_or); walk_at "ev"; intro _; walk_at "ev")
  | ((with_reducible apply ed_i0); walk_at "ev"; walk_at "ev")
  | ((with_reducible apply ed_b0); walk_at "ev"; walk_at "ev")
  | ((with_reducible apply ed_eqI); walk_at "ev"; walk_at "ev")
  | ((with_reducible apply ed_eqS); walk_at "ev"; walk_at "ev")
  | ((with_reducible apply ed_eqB); walk_at "ev"; walk_at "ev")
  | ((with_reducible apply ed_neI); walk_at "ev"; walk_at "ev")
  | ((with_reducible apply ed_neS); walk_at "ev"; walk_at "ev")
  | ((with_reducible apply ed_neB); walk_at "ev"; walk_at "ev")
  | ((with_reducible apply ed_isN); walk_at "ev"; walk_at "ev")
  | ((with_reducible apply ed_notN); walk_at "ev"; walk_at "ev")
  | ((with_reducible apply ed_chain); walk_at "ev"; walk_at "ev"; walk_at "ev")
  | ((with_reducible apply ed_ixT); walk_at "ev"; walk_at "ev"; walk_at "sd")
  | ((with_reducible apply ed_ixL); walk_at "ev"; walk_at "ev"; walk_at "sd")
  | ((with_reducible apply ed_isi); walk_at "ev"; (first | exact kit_int _ | exact kit_bool _ | exact kit_tuple _ | exact kit_str _))
  | ((with_reducible apply ed_len); walk_at "ev"; walk_at "sd")
  | ((with_reducible apply ed_call); walk_at "ev"; (first | assumption | exact ⟨_, rfl, rfl⟩ | exact ⟨_, _, rfl, rfl⟩ | exact ⟨_, _, _, rfl, rfl⟩); exact rfl)
  | ((with_reducible apply ed_max2); walk_at "ev"; walk_at "ev")
  | ((with_reducible apply ed_min2); walk_at "ev"; walk_at "ev")
  | ((with_reducible apply ed_list); walk_at "ev"; walk_at "sd")
  | ((with_reducible apply ed_tuple); walk_at "ev"; walk_at "sd")
  | ((with_reducible apply ed_neg); walk_at "ev"))

section
variable {P : Program} {w : World} {K : PySem.W.Frag} {mg : Str → Option Value} {base : Heap} {A0 : Ad}
def dDoing (c : Cl) : PyData := .tuple c.doing
def spGivers (K : PySem.W.Frag) : Sp := fun vs H Q _ => ∃ x cs, vs = [x] ∧ Dt K No H x (.list (cs.map dDoing)) ∧ cs.length ≤ 1000 ∧ (∀ c ∈ cs, c.wo ∈ GIV → ∃ i, c.giv = .int i) ∧
  ∀ a xs H', Ex H H' → H' a = some (.lst xs) → TupsV H' xs (giverKeys cs) → Q (.ref a) H'
theorem giverKeys_snoc (cs : List Cl) (c : Cl) : giverKeys (cs ++ [c]) = if c.wo ∈ GIV then giverKeys cs ++ [[.inl c.th, .inr c.wo, .inl (toI c.giv)]] else giverKeys cs := by
  unfold giverKeys
  rw [List.filter_append, List.map_append]
  by_cases h : c.wo ∈ GIV
  · simp [h]
  · simp [h]
theorem tupsV_mono {H H' : Hp} {xs : List V} {ks : List (List Key)} (h : TupsV H xs ks) (e : Ex H H') : TupsV H' xs ks := ⟨h.1, fun i x k h1 h2 => (h.2 i x k h1 h2).ex e⟩
theorem tupsV_snoc {H : Hp} {xs : List V} {ks : List (List Key)} {x : V} {k : List Key} (h : TupsV H xs ks) (hx : TupK H x k) : TupsV H (xs ++ [x]) (ks ++ [k]) := by
  refine ⟨by rw [List.length_append, List.length_append, h.1]; rfl, fun i y j h1 h2 => ?_⟩
  by_cases hi : i < xs.length
  · rw [List.getElem?_append_left hi] at h1
    rw [List.getElem?_append_left (by rw [← h.1]; exact hi)] at h2
    exact h.2 i y j h1 h2
  · have hi' : xs.length ≤ i := by omega
    rw [List.getElem?_append_right hi'] at h1
    rw [List.getElem?_append_right (by rw [← h.1]; exact hi'), ← h.1] at h2
    have e0 : i - xs.length = 0 := by
      have := (List.getElem?_eq_some_iff.mp h1).1
      have e1 : ([x] : List V).length = 1 := rfl
      omega
    rw [e0] at h1 h2
    obtain rfl := Option.some.inj h1
    obtain rfl := Option.some.inj h2
    exact hx
theorem tupK_kp {H : Hp} {Dl : Addr} {acc : List V} {o : HO} {v : V} {k : List Key} (h : TupK H v k) (hD : H Dl = some (.lst acc)) : TupK (upd H Dl o) v k :=
  let ⟨b, e, hb⟩ := h
  ⟨b, e, (kp_lst hD).t b _ hb⟩
theorem c_givers_of (T : Tx A0 K w mg) : C8.Cal P w K mg base 1 "givers_of" (spGivers K) [] := by
  refine cal_of T.d_givers_of sc_givers_of (fun vs H Q E h => by obtain ⟨x, cs, rfl, _⟩ := h; rfl) (fun f cdv A outer s H vs Q E hr h => ?_)
  obtain ⟨x, cs, rfl, hv, hz, hg, k⟩ := h
  refine ⟨_, (pss_one (ps_ret (pe_lc (own := [("thing", 1), ("word", 2), ("given", 3), ("told", 4)]) (by rfl) sc_givers_of.nd (pi_list (pv 0)) (blkOk_by (N := N_givers_of) (sc := (C8.fnScope s_givers_of)) (by decide +kernel)) (fun _ _ _ _ _ => (show PG _ _ (gTup K 4 _) from pg_tup rfl (pgs_cons (pg_name (i := 1) sc_givers_of.nd rfl (by first | exact Or.inl rfl | exact Or.inr rfl)) (pgs_cons (pg_name (i := 2) sc_givers_of.nd rfl (by first | exact Or.inl rfl | exact Or.inr rfl)) (pgs_cons (pg_name (i := 3) sc_givers_of.nd rfl (by first | exact Or.inl rfl | exact Or.inr rfl)) (pgs_cons (pg_name (i := 4) sc_givers_of.nd rfl (by first | exact Or.inl rfl | exact Or.inr rfl)) pgs_nil)))))) (fun _ _ _ _ _ => (pts_one (pt_cmpR (show OpR _ _ (rIn K false) from op_in_seq) (pv 2) (pe_gr (by rfl) T.GIVERS) (by rfl)))) (fun _ _ _ _ _ => (pe_tup (pa_cons (pv 1) (pa_cons (pv 2) (pa_cons (pv 3) pa_nil)))))))), ?_⟩
  try simp only [cxK, cxK2, List.map_cons, List.map_nil]
  have hG : ∀ H, Dt K No H (.ref A0.giv) (.tuple (GIV.map PyData.str)) := fun H => KTup.dt T.giv
  obtain ⟨a, xs, rfl, hs, _, hd⟩ := hv.toLst
  have hle : xs.length = cs.length := by rw [hd.len, List.length_map]
  refine ⟨.ref a, rfl, a, rfl, ⟨xs, hs⟩, fun Dl hD => ?_⟩
  refine lc_list (xs := xs) (fun i H' => Ex H H' ∧ ∃ acc, H' Dl = some (.lst acc) ∧ acc.length ≤ i ∧ TupsV H' acc (giverKeys (cs.take i))) ⟨Ex.new hD, [], upd_same, Nat.le_refl _, rfl, fun i x k h => by simp at h⟩ (fun i H' _ q => ex_l q.1 hs) (fun i x H' hi q => ?_) fun H' q => ?_
  · obtain ⟨eH, acc, hacc, hl, ht⟩ := q
    obtain ⟨d, hdi, hx⟩ := hd.get hi
    rw [List.getElem?_map, Option.map_eq_some_iff] at hdi
    obtain ⟨c, hc, rfl⟩ := hdi
    obtain ⟨p, ys, rfl, hp, hys⟩ := (hx.ex eH).toTup
    obtain ⟨v1, v2, v3, v4, rfl, h1, h2, h3, h4⟩ := hys.four
    have hci : i < cs.length := (List.getElem?_eq_some_iff.mp hc).1
    refine ⟨p, _, rfl, hp, rfl, v1, _, rfl, v2, _, rfl, v3, _, rfl, v4, _, rfl, rfl, rfl, ?_⟩
    refine evt_go (td_test (ed_inS (evd_var rfl h2) (ed_ref (hG _)))) fun H3 e3 => ?_
    rw [take_snoc hc, giverKeys_snoc]
    by_cases hw : c.wo ∈ GIV
    · rw [if_pos (decide_eq_true hw), if_pos hw]
      obtain ⟨g, hgi⟩ := hg c (List.mem_of_getElem? hc) hw
      rw [hgi] at h3 ⊢
      obtain rfl := h1.toInt
      obtain rfl := h2.toStr
      obtain rfl := h3.toInt
      refine ⟨_, rfl, _, rfl, _, rfl, by show 3 ≤ sizeLine; decide, fun q hq => ⟨acc, Ex.new hq _ _ (e3 _ _ hacc), sz_lt (by omega), ?_, _, upd_same, ?_, ?_⟩⟩
      · exact Ex.mut ((eH.trans e3).trans (Ex.new hq)) hD
      · rw [List.length_append]
        exact Nat.succ_le_succ hl
      · have hDq : (upd H3 q (.tup [.int c.th, .str c.wo, .int g])) Dl = some (.lst acc) := Ex.new hq _ _ (e3 _ _ hacc)
        have t1 : TupsV (upd H3 q (.tup [.int c.th, .str c.wo, .int g])) acc (giverKeys (cs.take i)) := tupsV_mono ht (e3.trans (Ex.new hq))
        have t2 := tupsV_snoc t1 (x := .ref q) (k := [.inl c.th, .inr c.wo, .inl (toI (.int g))]) ⟨q, rfl, upd_same⟩
        exact ⟨t2.1, fun i x k a b => tupK_kp (t2.2 i x k a b) hDq⟩
    · rw [if_neg (by simp [hw]), if_neg hw]
      exact ⟨eH.trans e3, acc, e3 _ _ hacc, Nat.le_succ_of_le hl, tupsV_mono ht e3⟩
  · obtain ⟨eH, acc, hacc, hl, ht⟩ := q
    rw [List.take_of_length_le (by omega)] at ht
    exact k Dl acc H' eH hacc ht
/-- t[k:], t[:k], t[j:k], t[:-1] -/
theorem sl_from {σ : L2.St} {H : Hp} {te ti : TE} {ds : List PyData} {k : Nat} (h : EvD K te σ H (.tuple ds)) (hk : EvD K ti σ H (.int (k : Int))) : EvD K (tSl (rSlA K) te (tPart ti) tNoPart) σ H (.tuple (ds.drop k)) := by
  refine evd_is (evd_slT h (eo_some hk.i) eo_none) ?_
  rw [HT.sIx_nat, HT.sIx_none]
  congr 1
  by_cases hle : k ≤ ds.length
  · rw [Nat.min_eq_left hle, List.take_of_length_le (by rw [List.length_drop]; exact Nat.le_refl _)]
  · rw [Nat.min_eq_right (by omega), List.drop_of_length_le (Nat.le_refl _), List.drop_of_length_le (by omega), List.take_nil]
theorem sl_to {σ : L2.St} {H : Hp} {te ti : TE} {ds : List PyData} {k : Nat} (h : EvD K te σ H (.tuple ds)) (hk : EvD K ti σ H (.int (k : Int))) : EvD K (tSl (rSlA K) te tNoPart (tPart ti)) σ H (.tuple (ds.take k)) := by
  refine evd_is (evd_slT h eo_none (eo_some hk.i)) ?_
  rw [HT.sIx_nat, HT.sIx_none, List.drop_zero, Nat.sub_zero]
  congr 1
  by_cases hle : k ≤ ds.length
  · rw [Nat.min_eq_left hle]
  · rw [Nat.min_eq_right (by omega), List.take_of_length_le (Nat.le_refl _), List.take_of_length_le (by omega)]
theorem sl_mid {σ : L2.St} {H : Hp} {te ti tj : TE} {ds : List PyData} {j k : Nat} (h : EvD K te σ H (.tuple ds)) (hj : EvD K tj σ H (.int (j : Int))) (hk : EvD K ti σ H (.int (k : Int))) (hjk : j ≤ ds.length) : EvD K (tSl (rSlA K) te (tPart tj) (tPart ti)) σ H (.tuple ((ds.drop j).take (k - j))) := by
  refine evd_is (evd_slT h (eo_some hj.i) (eo_some hk.i)) ?_
  rw [HT.sIx_nat, HT.sIx_nat, Nat.min_eq_left hjk]
  congr 1
  by_cases hle : k ≤ ds.length
  · rw [Nat.min_eq_left hle]
  · rw [Nat.min_eq_right (by omega), List.take_of_length_le (by rw [List.length_drop]; exact Nat.le_refl _), List.take_of_length_le (by rw [List.length_drop]; omega)]
theorem sl_last {σ : L2.St} {H : Hp} {te : TE} {ds : List PyData} (h : EvD K te σ H (.tuple ds)) : EvD K (tSl (rSlA K) te tNoPart (tPart (tUn (rU fun i => .int (-i)) (tC (.int 1))))) σ H (.tuple (ds.take (ds.length - 1))) := by
  refine evd_is (evd_slT (hi := some (-1)) h eo_none (eo_some (ed_neg (K := K) (i := 1) ed_int).i)) ?_
  have e : HT.sIx ds.length ds.length (some (-1)) = ds.length - 1 := by
    show (if (-1 : Int) < 0 then ((-1 : Int) + (ds.length : Int)).toNat else min (-1 : Int).toNat ds.length) = _
    rw [if_pos (by decide)]
    omega
  rw [e, HT.sIx_none, List.drop_zero, Nat.sub_zero]
theorem mem_take_get {α : Type} {l : List α} {n i : Nat} {x : α} (h : (l.take n)[i]? = some x) : l[i]? = some x := by
  rw [List.getElem?_take] at h
  split at h
  · exact h
  · cases h
theorem ints_b (cs : List Cl) : (cs.map Cl.data).map (fun d => (itemsOf d).getD 0 .none) = (cs.map Cl.b).map PyData.int := by
  rw [List.map_map, List.map_map]
  rfl
theorem ints_e (cs : List Cl) : (cs.map Cl.data).map (fun d => (itemsOf d).getD 1 .none) = (cs.map Cl.e).map PyData.int := by
  rw [List.map_map, List.map_map]
  rfl
abbrev spAreInTime (K : PySem.W.Frag) : Sp := spP K 1 fun ds d => ∃ cs : List Cl, cs.length ≤ 1000 ∧ (moments cs).Nodup ∧ (∀ (i : Nat) (c d : Cl), cs[i]? = some c → cs[i + 1]? = some d → c.b < d.b) ∧ ds = [dCalls cs] ∧ d = .bool true
theorem c_are_in_time (T : Tx A0 K w mg) : C8.Cal P w K mg base 2 "are_in_time" (spAreInTime K) [] := by
  have c_are_unlike := c_are_unlike (P := P) (base := base) T
  refine cal_of T.d_are_in_time sc_are_in_time (fun vs H Q E h => h.1) (fun f cdv A outer s H vs Q E hr h => ?_)
  obtain ⟨hl, ds, d, hd, ⟨cs, hz, nd, up, rfl, rfl⟩, k⟩ := h
  refine ⟨_, (pss_cons (ps_set (i := 1) sc_are_in_time.nd rfl (by first | exact Or.inl rfl | exact Or.inr rfl) (pe_op op_cat (pe_lc (own := [("call", 2)]) (by rfl) sc_are_in_time.nd (pi_tup (pv 0)) (blkOk_by (N := N_are_in_time) (sc := (C8.fnScope s_are_in_time)) (by decide +kernel)) (fun _ _ _ _ _ => (pg_name (i := 2) sc_are_in_time.nd rfl (by first | exact Or.inl rfl | exact Or.inr rfl))) (fun _ _ _ _ _ => pts_nil) (fun _ _ _ _ _ => (pe_ix (show IxR _ (rIxT K) from ix_tup) (pv 2) pe_int (fun _ _ => rfl)))) (pe_lc (own := [("call", 2)]) (by rfl) sc_are_in_time.nd (pi_tup (pv 0)) (blkOk_by (N := N_are_in_time) (sc := (C8.fnScope s_are_in_time)) (by decide +kernel)) (fun _ _ _ _ _ => (pg_name (i := 2) sc_are_in_time.nd rfl (by first | exact Or.inl rfl | exact Or.inr rfl))) (fun _ _ _ _ _ => pts_nil) (fun _ _ _ _ _ => (pe_ix (show IxR _ (rIxT K) from ix_tup) (pv 2) pe_int (fun _ _ => rfl))))))
        (pss_one (ps_ret (pe_and (C8.pe_c c_are_unlike hr (by decide) (by rfl) (pa_cons (pv 1) pa_nil)) (pe_one (pe_callB (cr_all rfl) (by rfl) T.all (by decide +kernel) (pa_cons (pe_lc (own := [("near", 3), ("far", 4)]) (by rfl) sc_are_in_time.nd (RZ.pi_zipA (by rfl) T.zip (pa_cons (pv 0) (pa_cons (pe_slice sl_tupA (pv 0) (po_some pe_int) po_none) pa_nil))) (blkOk_by (N := N_are_in_time) (sc := (C8.fnScope s_are_in_time)) (by decide +kernel)) (fun _ _ _ _ _ => (show PG _ _ (gTup K 2 _) from pg_tup rfl (pgs_cons (pg_name (i := 3) sc_are_in_time.nd rfl (by first | exact Or.inl rfl | exact Or.inr rfl)) (pgs_cons (pg_name (i := 4) sc_are_in_time.nd rfl (by first | exact Or.inl rfl | exact Or.inr rfl)) pgs_nil)))) (fun _ _ _ _ _ => pts_nil) (fun _ _ _ _ _ => (pe_cmpR op_lt (pe_ix (show IxR _ (rIxT K) from ix_tup) (pv 3) pe_int (fun _ _ => rfl)) (pe_ix (show IxR _ (rIxT K) from ix_tup) (pv 4) pe_int (fun _ _ => rfl)) (nomark _)))) pa_nil))))))), ?_⟩
  try simp only [cxK, cxK2, List.map_cons, List.map_nil]
  obtain ⟨v, rfl, hv⟩ := hd.one
  have hv : Dt K No H v (.tuple (cs.map Cl.data)) := hv
  have hlen : (cs.map Cl.data).length = cs.length := List.length_map _
  refine qd_asg (d := .list ((moments cs).map PyData.int)) (evd_is (EvN.d (evn_cat (EvN.d (evn_is (lcT_map (fun d => (itemsOf d).getD 0 .none) (evd_var rfl hv) (by omega) (fun d hd => ?_) fun d hd x H1 e hx => ?_) (ints_b cs))) (EvN.d (evn_is (lcT_map (fun d => (itemsOf d).getD 1 .none) (evd_var rfl hv) (by omega) (fun d hd => ?_) fun d hd x H1 e hx => ?_) (ints_e cs))) (by simp; omega))) (by unfold moments; rw [List.map_append])) fun u H1 e1 hu => ?_
  · obtain ⟨c, hc, rfl⟩ := List.mem_map.mp hd
    rfl
  · obtain ⟨c, hc, rfl⟩ := List.mem_map.mp hd
    exact ed_ixT (evd_var rfl hx) ed_int (data_b c)
  · obtain ⟨c, hc, rfl⟩ := List.mem_map.mp hd
    rfl
  · obtain ⟨c, hc, rfl⟩ := List.mem_map.mp hd
    exact ed_ixT (evd_var rfl hx) ed_int (data_e c)
  · have hv := hv.ex e1
    refine sd_ret (d := .bool true) (evd_is (ed_and (ed_unlike (evd_var rfl hu) .l (by unfold moments; rw [List.length_append, List.length_map, List.length_map]; omega)) fun _ => ed_all (bs := (zipD (cs.map Cl.data) ((cs.map Cl.data).drop 1)).map fun _ => true) (evd_is (EvN.d (evn_lcZipT (es := (cs.map Cl.data).drop 1) (fun _ => true) (fun _ => .bool true) (evd_var rfl hv) (sl_from (evd_var rfl hv) ed_int) (by omega) fun d hd H2 e2 => ?_)) ?_)) ?_) fun v H2 e2 => k v H2 (e1.trans e2)
    · obtain ⟨i, hi⟩ := List.getElem?_of_mem hd
      obtain ⟨x, y, hx, hy, rfl⟩ := zipD_get hi
      rw [List.getElem?_map, Option.map_eq_some_iff] at hx
      obtain ⟨c, hc, rfl⟩ := hx
      have hy2 : (cs.map Cl.data)[i + 1]? = some y := by
        rw [List.getElem?_drop] at hy
        rw [Nat.add_comm]
        exact hy
      rw [List.getElem?_map, Option.map_eq_some_iff] at hy2
      obtain ⟨c2, hc2, rfl⟩ := hy2
      have hlt := up i c c2 hc hc2
      refine tkw_pair (fun _ _ => rfl) (fun _ _ _ _ _ _ => et_yes) (fun _ v1 v2 H3 e3 h1 h2 => evd_is (ed_b0 (ed_ixT (evd_var rfl h1) ed_int (data_b c)) (ed_ixT (evd_var rfl h2) ed_int (data_b c2))) ?_) fun _ => rfl
      rw [decide_eq_true hlt]
    · rw [fm_yes, List.map_map]
      rfl
    · rw [decide_eq_true nd]
      congr 1
      rw [List.all_map]
      simp
abbrev spFault (K : PySem.W.Frag) : Sp := spP K 1 fun ds d => (∃ ss cs, HistOk ss cs ∧ ds = [dHist ss cs] ∧ d = .none) ∨ (ds = [dWrong] ∧ d = .str "calls")
theorem c_fault_of (T : Tx A0 K w mg) : C8.Cal P w K mg base 7 "fault_of" (spFault K) [] := by
  have c_are_sorts := c_are_sorts (P := P) (base := base) T
  have c_are_calls := c_are_calls (P := P) (base := base) T
  have c_are_in_time := c_are_in_time (P := P) (base := base) T
  have c_are_unlike := c_are_unlike (P := P) (base := base) T
  have c_givers_of := c_givers_of (P := P) (base := base) T
  refine cal_of T.d_fault_of sc_fault_of (fun vs H Q E h => h.1) (fun f cdv A outer s H vs Q E hr h => ?_)
  obtain ⟨hl, ds, d, hd, hx, k⟩ := h
  refine ⟨_, (pss_cons (ps_if (PW.pt (pw_or (pt_not (pt_val (pe_callB call_isi (by rfl) T.isinstance (by decide +kernel) (pa_cons (pv 0) (pa_cons (pe_bltn (v := .ty "tuple") (by rfl) T.tuple PyProof.Rows.boot_tuple rfl) pa_nil))))) (pw_or (pt_cmpR op_ne (pe_callB call_len_seq (by rfl) T.len (by decide +kernel) (pa_cons (pv 0) pa_nil)) pe_int (nomark _)) (pw_or1 (pt_not (pt_val (pe_callB (cr_all rfl) (by rfl) T.all (by decide +kernel) (pa_cons (pe_lc (own := [("one", 1)]) (by rfl) sc_fault_of.nd (pi_tup (pv 0)) (blkOk_by (N := N_fault_of) (sc := (C8.fnScope s_fault_of)) (by decide +kernel)) (fun _ _ _ _ _ => (pg_name (i := 1) sc_fault_of.nd rfl (by first | exact Or.inl rfl | exact Or.inr rfl))) (fun _ _ _ _ _ => pts_nil) (fun _ _ _ _ _ => (pe_callB (show CallR _ _ (rIsi K) from call_isi) (by rfl) T.isinstance (by decide +kernel) (pa_cons (pv 1) (pa_cons (pe_bltn (v := .ty "tuple") (by rfl) T.tuple PyProof.Rows.boot_tuple rfl) pa_nil))))) pa_nil)))))))) (pss_one (ps_ret pe_str)) pss_nil)
        (pss_cons (ps_if (pt_not (pt_val (C8.pe_c c_are_sorts hr (by decide) (by rfl) (pa_cons (pe_ix ix_tup (pv 0) pe_int (fun _ _ => rfl)) pa_nil)))) (pss_one (ps_ret pe_str)) pss_nil)
        (pss_cons (ps_if (pt_not (pt_val (C8.pe_c c_are_calls hr (by decide) (by rfl) (pa_cons (pe_ix ix_tup (pv 0) pe_int (fun _ _ => rfl)) (pa_cons (pe_ix ix_tup (pv 0) pe_int (fun _ _ => rfl)) pa_nil))))) (pss_one (ps_ret pe_str)) pss_nil)
        (pss_cons (ps_if (pt_not (pt_val (C8.pe_c c_are_in_time hr (by decide) (by rfl) (pa_cons (pe_ix ix_tup (pv 0) pe_int (fun _ _ => rfl)) pa_nil)))) (pss_one (ps_ret pe_str)) pss_nil)
        (pss_one (ps_ret (pe_ifExp (pt_val (C8.pe_c c_are_unlike hr (by decide) (by rfl) (pa_cons (C8.pe_c c_givers_of hr (by decide) (by rfl) (pa_cons (pe_lc (own := [("call", 2)]) (by rfl) sc_fault_of.nd (pi_tup (pe_ix ix_tup (pv 0) pe_int (fun _ _ => rfl))) (blkOk_by (N := N_fault_of) (sc := (C8.fnScope s_fault_of)) (by decide +kernel)) (fun _ _ _ _ _ => (pg_name (i := 2) sc_fault_of.nd rfl (by first | exact Or.inl rfl | exact Or.inr rfl))) (fun _ _ _ _ _ => pts_nil) (fun _ _ _ _ _ => (pe_slice (show SlR _ (rSlA K) from sl_tupA) (pv 2) (po_some pe_int) po_none))) pa_nil)) pa_nil))) pe_non pe_str))))))), ?_⟩
  try simp only [cxK, cxK2, List.map_cons, List.map_nil]
  -- the form
  have form : ∀ v a b, Dt K No H v (.tuple [.tuple a, .tuple b]) → EvT (tOr (tNot (tB (tCB (rIsi K) (tCons (tVar 0) (tCons (tC (.ty "tuple")) tNil))))) (tOr (tTest (tOp rNe (tCB (rLenS K) (tCons (tVar 0) tNil)) (tC (.int 2)))) (tNot (tB (tCB (rAll K) (tCons (tLc (iTup K (tVar 0)) (gName 1) tYes (tCB (rIsi K) (tCons (tVar 1) (tCons (tC (.ty "tuple")) tNil))) [1]) tNil)))))) (start N_fault_of [v]) H false := fun v a b hv => by
    refine et_is (et_or (et_not (by walk_at "ev")) fun _ => et_or (td_test (ed_neI (ed_len (evd_var rfl hv) .t) ed_int)) fun _ => et_not (td_B (ed_all (lcT_bool (fun _ => true) (evd_var rfl hv) (by show 2 ≤ 40000; decide) fun d hd x H1 e hx => ?_)))) rfl
    have hd : d = .tuple a ∨ d = .tuple b := by simpa using hd
    rcases hd with rfl | rfl
    · exact ed_isi (evd_var rfl hx) (kit_tuple _)
    · exact ed_isi (evd_var rfl hx) (kit_tuple _)
  rcases hx with ⟨ss, cs, ok, rfl, rfl⟩ | ⟨rfl, rfl⟩
  · obtain ⟨v, rfl, hv⟩ := hd.one
    have hv : Dt K No H v (.tuple [dSorts ss, dCalls cs]) := hv
    have z : cs.length ≤ 1000 := by have := ok.c10; omega
    refine q_when (b := false) (form v _ _ hv) (fun h => nomatch h) fun _ H1 e1 => ?_
    have hv := hv.ex e1
    refine q_when (b := false) (et_is (et_not (td_B (ed_call (ead_cons (ed_ixT (d := dSorts ss) (evd_var rfl hv) ed_int rfl) ead_nil) ⟨ss, ok.s1, ok.s4, ok.so, rfl, rfl⟩ rfl))) rfl) (fun h => nomatch h) fun _ H2 e2 => ?_
    have hv := hv.ex e2
    refine q_when (b := false) (et_is (et_not (td_B (ed_call (d := .bool true) (ead_cons (ed_ixT (d := dSorts ss) (evd_var rfl hv) ed_int rfl) (ead_cons (ed_ixT (d := dCalls cs) (evd_var rfl hv) ed_int rfl) ead_nil)) ⟨ss, ok.s4, .inl ⟨cs, ok.c10, ok.co, rfl, rfl⟩⟩ rfl))) rfl) (fun h => nomatch h) fun _ H3 e3 => ?_
    have hv := hv.ex e3
    refine q_when (b := false) (et_is (et_not (td_B (ed_call (d := .bool true) (ead_cons (ed_ixT (d := dCalls cs) (evd_var rfl hv) ed_int rfl) ead_nil) ⟨cs, z, ok.md, ok.up, rfl, rfl⟩ rfl))) rfl) (fun h => nomatch h) fun _ H4 e4 => ?_
    have hv := hv.ex e4
    refine sd_ret (evd_if (b := true) (td_B (K := K) (fun H5 e5 Q2 q2 => ?_)) (fun _ => ed_non) fun h => nomatch h) fun v2 H6 e6 h6 => k v2 H6 ((((e1.trans e2).trans e3).trans e4).trans e6) h6
    have hv := hv.ex e5
    change tLc (iTup K (tOp (rIxT K) (tVar 0) (tC (V.int 1)))) (gName 2) tYes (tSl (rSlA K) (tVar 2) (tPart (tC (V.int 2))) tNoPart) [2] (start N_fault_of [v]) H5 (fun x Hx => spGivers K ([x] ++ []) Hx (fun y Hy => spUnlike K ([y] ++ []) Hy Q2 C8.E0) C8.E0)
    refine (lcT_map (K := K) (tl := tOp (rIxT K) (tVar 0) (tC (.int 1))) (te := tSl (rSlA K) (tVar 2) (tPart (tC (.int 2))) tNoPart) (j := 2) (σ := start N_fault_of [v]) (fun d => .tuple ((itemsOf d).drop 2)) (ed_ixT (i := 1) (d := dCalls cs) (evd_var rfl hv) ed_int rfl) (by rw [List.length_map]; omega) (fun d hd => ?_) fun d hd x H7 e7 hx => ?_).go fun p xs H7 hp e7 h7 hxs => ?_
    · obtain ⟨c, hc, rfl⟩ := List.mem_map.mp hd
      have := (ok.co c hc).noL
      show noL (.tuple c.doing) = true
      have h2 : (SB.noL (.int c.b) && (SB.noL (.int c.e) && noL (.tuple c.doing))) = true := this
      rw [Bool.and_eq_true, Bool.and_eq_true] at h2
      exact h2.2.2
    · obtain ⟨c, hc, rfl⟩ := List.mem_map.mp hd
      exact sl_from (k := 2) (evd_var rfl hx) ed_int
    · have hxs2 : DtAll K No H7 xs (cs.map dDoing) := by
        rw [List.map_map] at hxs
        exact hxs
      refine ⟨.ref p, cs, rfl, .lst h7 (fun z => z) hxs2, z, fun c hc hw => canGive_int (ok.co c hc).gv hw, fun a ys H8 e8 h8 ht => ?_⟩
      refine ⟨.ref a, true, rfl, ⟨a, ys, rfl, .inl (SqL.of h8), by
        rw [ht.1]
        unfold giverKeys
        rw [List.length_map]
        have := List.length_filter_le (fun c : Cl => decide (c.wo ∈ GIV)) cs
        omega, .inr ⟨_, ht, by simp [ok.gd]⟩⟩, fun H9 e9 => q2 _ H9 ((e7.trans e8).trans e9) (.bl true)⟩
  · obtain ⟨v, rfl, hv⟩ := hd.one
    have hv : Dt K No H v (.tuple [dSorts [.cell], .tuple [.none]]) := hv
    refine q_when (b := false) (form v _ _ hv) (fun h => nomatch h) fun _ H1 e1 => ?_
    have hv := hv.ex e1
    refine q_when (b := false) (et_is (et_not (td_B (ed_call (ead_cons (ed_ixT (d := dSorts [.cell]) (evd_var rfl hv) ed_int rfl) ead_nil) ⟨[.cell], by decide, by decide, fun s hs => by
      obtain rfl := List.mem_singleton.mp hs
      trivial, rfl, rfl⟩ rfl))) rfl) (fun h => nomatch h) fun _ H2 e2 => ?_
    have hv := hv.ex e2
    refine q_when (b := true) (et_is (et_not (td_B (ed_call (d := .bool false) (ead_cons (ed_ixT (d := dSorts [.cell]) (evd_var rfl hv) ed_int rfl) (ead_cons (ed_ixT (d := .tuple [.none]) (evd_var rfl hv) ed_int rfl) ead_nil)) ⟨[.cell], by decide, .inr ⟨rfl, rfl⟩⟩ rfl))) rfl) (fun _ H3 e3 => ?_) fun h => nomatch h
    exact sd_ret ed_str fun v2 H6 e6 h6 => k v2 H6 (((e1.trans e2).trans e3).trans e6) h6
end
end SB
end

section
set_option Elab.async false
set_option linter.all false
set_option maxRecDepth 100000
set_option maxHeartbeats 2000000
set_option autoImplicit false
/-! SbD6: what is asked of a history: orders, lots, things. -/
namespace SB
open PySem PySem.Spec PyProof.Rows L2 Evl
abbrev s_need_thing : Stmt := topS 31
abbrev N_need_thing : List Str := ["history", "thing"]
theorem sc_need_thing : FnScope N_need_thing ["history", "thing"] (C8.fnScope s_need_thing) := C8.fnScope_by (by decide +kernel)
abbrev s_is_order : Stmt := topS 36
abbrev N_is_order : List Str := ["history", "value"]
theorem sc_is_order : FnScope N_is_order ["history", "value"] (C8.fnScope s_is_order) := C8.fnScope_by (by decide +kernel)
abbrev s_need_lot : Stmt := topS 37
abbrev N_need_lot : List Str := ["history", "lot", "near", "far"]
theorem sc_need_lot : FnScope N_need_lot ["history", "lot"] (C8.fnScope s_need_lot) := C8.fnScope_by (by decide +kernel)
abbrev s_with_numbers : Stmt := topS 38
abbrev N_with_numbers : List Str := ["history", "lot", "number"]
theorem sc_with_numbers : FnScope N_with_numbers ["history", "lot"] (C8.fnScope s_with_numbers) := C8.fnScope_by (by decide +kernel)
abbrev s_calls_of_lot : Stmt := topS 39
abbrev N_calls_of_lot : List Str := ["history", "lot"]
theorem sc_calls_of_lot : FnScope N_calls_of_lot ["history", "lot"] (C8.fnScope s_calls_of_lot) := C8.fnScope_by (by decide +kernel)
abbrev s_part_in : Stmt := topS 40
abbrev N_part_in : List Str := ["history", "thing", "calls", "call"]
theorem sc_part_in : FnScope N_part_in ["history", "thing"] (C8.fnScope s_part_in) := C8.fnScope_by (by decide +kernel)
abbrev s_history_of_thing : Stmt := topS 41
abbrev N_history_of_thing : List Str := ["history", "thing"]
theorem sc_history_of_thing : FnScope N_history_of_thing ["history", "thing"] (C8.fnScope s_history_of_thing) := C8.fnScope_by (by decide +kernel)
local macro_rules | `(tactic| walk_at "sd") => `(tactic| first | with_reducible rfl | assumption | exact SeqD.t | exact SeqD.l | rfl | omega)
local macro_rules | `(tactic| walk_at "dt") => `(tactic| first | assumption | exact Dt.int _ | exact Dt.bl _ | exact Dt.str _ | exact Dt.non | exact Dt.ex (by assumption) (by assumption))
local macro_rules | `(tactic| walk_at "ev") => `(tactic| first
  | assumption
  | with_reducible apply ed_int
  | with_reducible apply ed_str
  | with_reducible apply ed_bl
  | with_reducible apply ed_non
  | with_reducible apply ead_nil
  | with_reducible exact et_yes
  | with_reducible exact eo_none
  | exact evd_var rfl (by walk_at "dt")
  | ((with_reducible apply td_test); walk_at "ev")
  | ((with_reducible apply td_B); walk_at "ev")
  | ((with_reducible apply et_not); walk_at "ev")
  | ((with_reducible apply et_and); walk_at "ev"; intro _; walk_at "ev")
  | ((with_reducible apply et_or); walk_at "ev"; intro _; walk_at "ev")
  | ((with_reducible apply ead_cons); walk_at "ev"; walk_at "ev")
  | ((with_reducible apply eod_some); walk_at "ev")
  | ((with_reducible apply evd_tup); walk_at "ev"; first | decide | (focus (simp; done)) | omega)
  | ((with_reducible apply evd_lst); walk_at "ev"; first | decide | (focus (simp; done)) | omega)
  | ((with_reducible apply ed_not); walk_at "ev")
  | ((with_reducible apply ed_and); walk_at "ev"; intro _; walk_at "ev")
  | ((with_reducible apply ed_or); walk_at "ev"; intro _; walk_at "ev")
  | ((with_reducible apply ed_i0); walk_at "ev"; walk_at "ev")
  | ((with_reducible apply ed_b0); walk_at "ev"; walk_at "ev")
  | ((with_reducible apply ed_eqI); walk_at "ev"; walk_at "ev")
  | ((with_reducible apply ed_eqS); walk_at "ev"; walk_at "ev")
  | ((with_reducible apply ed_eqB); walk_at "ev"; walk_at "ev")
  | ((with_reducible apply ed_neI); walk_at "ev"; walk_at "ev")
  | ((with_reducible apply ed_neS); walk_at "ev"; walk_at "ev")
  | ((with_reducible apply ed_neB); walk_at "ev"; walk_at "ev")
  | ((with_reducible apply ed_isN); walk_at "ev"; walk_at "ev")
  | ((with_reducible apply ed_notN); walk_at "ev"; walk_at "ev")
  | ((with_reducible apply ed_chain); walk_at "ev"; walk_at "ev"; walk_at "ev")
  | ((with_reducible apply ed_ixT); walk_at "ev"; walk_at "ev"; walk_at "sd")
  | ((with_reducible apply ed_ixL); walk_at "ev"; walk_at "ev"; walk_at "sd")
  | ((with_reducible apply ed_isi); walk_at "ev"; (first | exact kit_int _ | exact kit_bool _ | exact kit_tuple _ | exact kit_str _))
  | ((with_reducible apply ed_len); walk_at "ev"; walk_at "sd")
  | ((with_reducible apply ed_call); walk_at "ev"; (first | assumption | exact ⟨_, rfl, rfl⟩ | exact ⟨_, _, rfl, rfl⟩ | exact ⟨_, _, _, rfl, rfl⟩); exact rfl)
  | ((with_reducible apply ed_max2); walk_at "ev"; walk_at "ev")
  | ((with_reducible apply ed_min2); walk_at "ev"; walk_at "ev")
  | ((with_reducible apply ed_list); walk_at "ev"; walk_at "sd")
  | ((with_reducible apply ed_tuple); walk_at "ev"; walk_at "sd")
  | ((with_reducible apply ed_neg); walk_at "ev"))

/-- what a def that may raise gives: data, or an own error with its field -/
inductive Res where
  | ok (d : PyData)
  | er (C : Addr) (g : PyData)
def Res.to (K : PySem.W.Frag) (H : Hp) (Q : VK) (E : XK) : Res → Prop
  | .ok d => ∀ v H', Ex H H' → Dt K No H' v d → Q v H'
  | .er C g => ∀ dd y H', Ex H H' → XGiv dd y H' → Dt K No H' y g → E (.ref C) (some dd) H'
def spR (K : PySem.W.Frag) (n : Nat) (R : List PyData → Res → Prop) : Sp := fun vs H Q E => vs.length = n ∧ ∃ ds r, DtAll K No H vs ds ∧ R ds r ∧ r.to K H Q E
section
variable {P : Program} {w : World} {K : PySem.W.Frag} {mg : Str → Option Value} {base : Heap} {A0 : Ad}
theorem init_H (T : Tx A0 K w mg) : ∃ fd, FnOk P w K mg base C8.CX0 1 A0.fH fd ["self", "given"] (spInit K A0.cH) ∧ Binds K fd ["self", "given"] [] := fn_init T.eH (C8.fnScope_by (by decide +kernel)) rfl rfl rfl
theorem init_L (T : Tx A0 K w mg) : ∃ fd, FnOk P w K mg base C8.CX0 1 A0.fL fd ["self", "given"] (spInit K A0.cL) ∧ Binds K fd ["self", "given"] [] := fn_init T.eL (C8.fnScope_by (by decide +kernel)) rfl rfl rfl
theorem init_T (T : Tx A0 K w mg) : ∃ fd, FnOk P w K mg base C8.CX0 1 A0.fT fd ["self", "given"] (spInit K A0.cT) ∧ Binds K fd ["self", "given"] [] := fn_init T.eT (C8.fnScope_by (by decide +kernel)) rfl rfl rfl
abbrev spNeed (K : PySem.W.Frag) : Sp := spP K 1 fun ds d => ∃ ss cs, HistOk ss cs ∧ ds = [dHist ss cs] ∧ d = dHist ss cs
theorem c_need_history (T : Tx A0 K w mg) : C8.Cal P w K mg base 8 "need_history" (spNeed K) [] := by
  have c_fault_of := c_fault_of (P := P) (base := base) T
  refine cal_of T.d_need_history sc_need_history (fun vs H Q E h => h.1) (fun f cdv A outer s H vs Q E hr h => ?_)
  obtain ⟨hl, ds, d, hd, ⟨ss, cs, ok, rfl, rfl⟩, k⟩ := h
  refine ⟨_, (pss_cons (ps_set (i := 1) sc_need_history.nd rfl (by first | exact Or.inl rfl | exact Or.inr rfl) (C8.pe_c c_fault_of hr (by decide) (by rfl) (pa_cons (pv 0) pa_nil)))
        (pss_cons (ps_if (pt_cmpR op_notN (pv 1) pe_non (nomark _)) (pss_one ps_never) pss_nil)
        (pss_one (ps_ret (pv 0))))), ?_⟩
  try simp only [cxK, cxK2, List.map_cons, List.map_nil]
  obtain ⟨v, rfl, hv⟩ := hd.one
  refine qd_asg (ed_call (ead_cons (evd_var rfl hv) ead_nil) (.inl ⟨ss, cs, ok, rfl, rfl⟩) rfl) fun u H1 e1 hu => ?_
  refine q_when (b := false) (et_is (td_test (ed_notN (evd_var rfl hu) ed_non)) rfl) (fun h => nomatch h) fun _ H2 e2 => ?_
  exact sd_ret (evd_var rfl (hv.ex (e1.trans e2))) fun v2 H3 e3 h3 => k v2 H3 ((e1.trans e2).trans e3) h3
abbrev spNeedX (A0 : Ad) (K : PySem.W.Frag) : Sp := spR K 1 fun ds r => (∃ ss cs, HistOk ss cs ∧ ds = [dHist ss cs] ∧ r = .ok (dHist ss cs)) ∨ (ds = [dWrong] ∧ r = .er A0.cH (.str "calls"))
theorem x_need_history (T : Tx A0 K w mg) : CalX P w K mg base 8 "need_history" (spNeedX A0 K) := by
  have c_fault_of := c_fault_of (P := P) (base := base) T
  refine calX_of T.d_need_history sc_need_history (fun vs H Q E h => h.1) (fun f cdv A outer s H vs Q E hr h tk => ?_)
  obtain ⟨hl, ds, d, hd, hx, k⟩ := h
  refine ⟨_, (pss_cons (ps_set (i := 1) sc_need_history.nd rfl (by first | exact Or.inl rfl | exact Or.inr rfl) (C8.pe_c c_fault_of hr (by decide) (by rfl) (pa_cons (pv 0) pa_nil)))
        (pss_cons (ps_if (pt_cmpR op_notN (pv 1) pe_non (nomark _)) (pss_one (ps_rz T.eH (init_H T) rfl tk hr (by decide) (by rfl) (pv 1))) pss_nil)
        (pss_one (ps_ret (pv 0))))), ?_⟩
  try simp only [cxK, cxK2, List.map_cons, List.map_nil]
  rcases hx with ⟨ss, cs, ok, rfl, rfl⟩ | ⟨rfl, rfl⟩
  · obtain ⟨v, rfl, hv⟩ := hd.one
    refine qd_asg (ed_call (ead_cons (evd_var rfl hv) ead_nil) (.inl ⟨ss, cs, ok, rfl, rfl⟩) rfl) fun u H1 e1 hu => ?_
    refine q_when (b := false) (et_is (td_test (ed_notN (evd_var rfl hu) ed_non)) rfl) (fun h => nomatch h) fun _ H2 e2 => ?_
    exact sd_ret (evd_var rfl (hv.ex (e1.trans e2))) fun v2 H3 e3 h3 => k v2 H3 ((e1.trans e2).trans e3) h3
  · obtain ⟨v, rfl, hv⟩ := hd.one
    refine qd_asg (d := .str "calls") (ed_call (ead_cons (evd_var rfl hv) ead_nil) (.inr ⟨rfl, rfl⟩) rfl) fun u H1 e1 hu => ?_
    refine q_when (b := true) (et_is (td_test (ed_notN (evd_var rfl hu) ed_non)) rfl) (fun _ H2 e2 => ?_) fun h => nomatch h
    exact s_rz (evd_var rfl (hu.ex e2)) fun dd y H3 e3 hx hy => k dd y H3 ((e1.trans e2).trans e3) hx hy
theorem Res.to_mono {H H' : Hp} {Q : VK} {E : XK} {r : Res} (h : r.to K H Q E) (e : Ex H H') : r.to K H' Q E := by
  cases r with
  | ok d => exact fun v H1 e1 hv => h v H1 (e.trans e1) hv
  | er C g => exact fun dd y H1 e1 hx hy => h dd y H1 (e.trans e1) hx hy
theorem xr_call {σ : L2.St} {H : Hp} {n : Nat} {R : List PyData → Res → Prop} {E : XK} {Q : VK} {ar : TA} {ds : List PyData} {r : Res} (h : EvAD K ar σ H ds) (hR : R ds r) (hn : ds.length = n) (q : r.to K H Q E) : tCall (spR K n R) [] E ar σ H Q :=
  h H (Ex.refl H) _ fun vs H1 e1 hs => by
    rw [List.append_nil]
    exact ⟨hs.len.trans hn, ds, r, hs, hR, Res.to_mono q e1⟩
theorem xr_nest {σ : L2.St} {H : Hp} {R0 R : List PyData → Res → Prop} {E : XK} {Q : VK} {te te2 : TE} {dh dx : PyData} {r0 : Res} (h : EvD K te σ H dh) (h2 : EvD K te2 σ H dx) (hR : R0 [dh] r0)
    (k : match r0 with | .ok d => ∃ r, R [d, dx] r ∧ r.to K H Q E | .er C g => (Res.er C g).to K H Q E) : tCall (spR K 2 R) [] E (tCons (tCall (spR K 1 R0) [] E (tCons te tNil)) (tCons te2 tNil)) σ H Q := by
  show tCall (spR K 1 R0) [] E (tCons te tNil) σ H fun v H1 => te2 σ H1 fun u H2 => spR K 2 R ([v, u] ++ []) H2 Q E
  refine xr_call (ead_cons h ead_nil) hR rfl ?_
  cases r0 with
  | ok d =>
    obtain ⟨r, hr, q⟩ := k
    exact fun v H1 e1 hv => h2 H1 e1 _ fun u H2 e2 hu => ⟨rfl, [d, dx], r, .cons (hv.ex e2) (.cons hu .nil), hr, Res.to_mono q (e1.trans e2)⟩
  | er C g => exact k
abbrev spIsOrder (K : PySem.W.Frag) : Sp := spP K 2 fun ds d => ∃ ss cs x, HistOk ss cs ∧ (itemsOf x).length ≤ 20000 ∧ ds = [dHist ss cs, x] ∧ d = .bool (orderIn cs x)
theorem c_is_order (T : Tx A0 K w mg) : C8.Cal P w K mg base 9 "is_order" (spIsOrder K) [] := by
  have c_need_history := c_need_history (P := P) (base := base) T
  have c_is_order_in := c_is_order_in (P := P) (base := base) T
  refine cal_of T.d_is_order sc_is_order (fun vs H Q E h => h.1) (fun f cdv A outer s H vs Q E hr h => ?_)
  obtain ⟨hl, ds, d, hd, ⟨ss, cs, x, ok, hx, rfl, rfl⟩, k⟩ := h
  refine ⟨_, (pss_one (ps_ret (C8.pe_c c_is_order_in hr (by decide) (by rfl) (pa_cons (pe_ix ix_tup (C8.pe_c c_need_history hr (by decide) (by rfl) (pa_cons (pv 0) pa_nil)) pe_int (fun _ _ => rfl)) (pa_cons (pv 1) pa_nil))))), ?_⟩
  try simp only [cxK, cxK2, List.map_cons, List.map_nil]
  obtain ⟨v, u, rfl, hv, hu⟩ := hd.two
  exact sd_ret (ed_call (ead_cons (ed_ixT (ds := [dSorts ss, dCalls cs]) (i := 1) (ed_call (ead_cons (evd_var rfl hv) ead_nil) ⟨ss, cs, ok, rfl, rfl⟩ rfl) ed_int rfl) (ead_cons (evd_var rfl hu) ead_nil)) ⟨cs, x, by have := ok.c10; omega, hx, rfl, rfl⟩ rfl) k
abbrev spIsOrderX (A0 : Ad) (K : PySem.W.Frag) : Sp := spR K 2 fun ds r => ∃ x, ds = [dWrong, x] ∧ r = .er A0.cH (.str "calls")
theorem x_is_order (T : Tx A0 K w mg) : CalX P w K mg base 9 "is_order" (spIsOrderX A0 K) := by
  have x_need_history := x_need_history (P := P) (base := base) T
  have c_is_order_in := c_is_order_in (P := P) (base := base) T
  refine calX_of T.d_is_order sc_is_order (fun vs H Q E h => h.1) (fun f cdv A outer s H vs Q E hr h tk => ?_)
  obtain ⟨hl, ds, d, hd, ⟨x, rfl, rfl⟩, k⟩ := h
  refine ⟨_, (pss_one (ps_ret (C8.pe_c c_is_order_in hr (by decide) (by rfl) (pa_cons (pe_ix ix_tup (pe_cX x_need_history hr tk (fun _ _ _ _ h => h) (by decide) (by rfl) (pa_cons (pv 0) pa_nil)) pe_int (fun _ _ => rfl)) (pa_cons (pv 1) pa_nil))))), ?_⟩
  try simp only [cxK, cxK2, List.map_cons, List.map_nil]
  obtain ⟨v, u, rfl, hv, hu⟩ := hd.two
  exact xr_call (ead_cons (evd_var rfl hv) ead_nil) (.inr ⟨rfl, rfl⟩) rfl k
/-- is it one of many? -/
def thingIn (n : Nat) (x : PyData) : Bool := isInt x && (decide (0 ≤ toI x) && decide (toI x < (n : Int)))
abbrev spNeedThing (A0 : Ad) (K : PySem.W.Frag) : Sp := spR K 2 fun ds r => ∃ ss cs x, ss.length ≤ 1000 ∧ ds = [dHist ss cs, x] ∧ r = if thingIn ss.length x = true then .ok .none else .er A0.cT x
theorem x_need_thing (T : Tx A0 K w mg) : CalX P w K mg base 3 "need_thing" (spNeedThing A0 K) := by
  have c_is_integer := c_is_integer (P := P) (base := base) T
  refine calX_of T.d_need_thing sc_need_thing (fun vs H Q E h => h.1) (fun f cdv A outer s H vs Q E hr h tk => ?_)
  obtain ⟨hl, ds, d, hd, ⟨ss, cs, x, hz, rfl, rfl⟩, k⟩ := h
  refine ⟨_, (pss_one (ps_if (PW.pt (pw_or (pt_not (pt_val (C8.pe_c c_is_integer hr (by decide) (by rfl) (pa_cons (pv 1) pa_nil)))) (pw_or1 (pt_not (pt_chain op_le op_lt pe_int (pv 1) (pe_callB call_len_seq (by rfl) T.len (by decide +kernel) (pa_cons (pe_ix ix_tup (pv 0) pe_int (fun _ _ => rfl)) pa_nil))))))) (pss_one (ps_rz T.eT (init_T T) rfl tk hr (by decide) (by rfl) (pv 1))) pss_nil)), ?_⟩
  try simp only [cxK, cxK2, List.map_cons, List.map_nil]
  obtain ⟨v, u, rfl, hv, hu⟩ := hd.two
  refine s_when (b := !thingIn ss.length x) (et_is (et_or (b := !(decide (0 ≤ toI x) && decide (toI x < (ss.length : Int)))) (et_not (by walk_at "ev")) fun hi => ?_) ?_) (fun h H1 e1 => ?_) fun h H1 e1 => ?_
  · have hi : isInt x = true := by simpa using hi
    rw [isInt_is hi] at hu
    exact et_not (td_test (ed_chain ed_int (evd_var rfl hu) (evd_is (ed_len (ed_ixT (ds := [dSorts ss, dCalls cs]) (i := 0) (evd_var rfl hv) ed_int rfl) .t) (by rw [List.length_map]))))
  · unfold thingIn
    cases isInt x <;> rfl
  · have h : thingIn ss.length x = false := by simpa using h
    rw [if_neg (by rw [h]; decide)] at k
    exact s_rz (evd_var rfl (hu.ex e1)) fun dd y H3 e3 hx hy => k dd y H3 (e1.trans e3) hx hy
  · have h : thingIn ss.length x = true := by simpa using h
    rw [if_pos h] at k
    exact k _ H1 e1 .non
end
end SB
end

section
set_option Elab.async false
set_option linter.all false
set_option maxRecDepth 100000
set_option maxHeartbeats 2000000
set_option autoImplicit false
/-! SbD7: lots, parts. -/
namespace SB
open PySem PySem.Spec PyProof.Rows L2 Evl
local macro_rules | `(tactic| walk_at "sd") => `(tactic| first | with_reducible rfl | assumption | exact SeqD.t | exact SeqD.l | rfl | omega)
local macro_rules | `(tactic| walk_at "dt") => `(tactic| first | assumption | exact Dt.int _ | exact Dt.bl _ | exact Dt.str _ | exact Dt.non | exact Dt.ex (by assumption) (by assumption))
local macro_rules | `(tactic| walk_at "ev") => `(tactic| first
  | assumption
  | with_reducible apply ed_int
  | with_reducible apply ed_str
  | with_reducible apply ed_bl
  | with_reducible apply ed_non
  | with_reducible apply ead_nil
  | with_reducible exact et_yes
  | with_reducible exact eo_none
  | exact evd_var rfl (by walk_at "dt")
  | ((with_reducible apply td_test); walk_at "ev")
  | ((with_reducible apply td_B); walk_at "ev")
  | ((with_reducible apply et_not); walk_at "ev")
  | ((with_reducible apply et_and); walk_at "ev"; intro _; walk_at "ev")
  | ((with_reducible apply et_or); walk_at "ev"; intro _; walk_at "ev")
  | ((with_reducible apply ead_cons); walk_at "ev"; walk_at "ev")
  | ((with_reducible apply eod_some); walk_at "ev")
  | ((with_reducible apply evd_tup); walk_at "ev"; first | decide | (focus (simp; done)) | omega)
  | ((with_reducible apply evd_lst); walk_at "ev"; first | decide | (focus (simp; done)) | omega)
  | ((with_reducible apply ed_not); walk_at "ev")
  | ((with_reducible apply ed_and); walk_at "ev"; intro _; walk_at "ev")
  | ((with_reducible apply ed_or); walk_at "ev"; intro _; walk_at "ev")
  | ((with_reducible apply ed_i0); walk_at "ev"; walk_at "ev")
  | ((with_reducible apply ed_b0); walk_at "ev"; walk_at "ev")
  | ((with_reducible apply ed_eqI); walk_at "ev"; walk_at "ev")
  | ((with_reducible apply ed_eqS); walk_at "ev"; walk_at "ev")
  | ((with_reducible apply ed_eqB); walk_at "ev"; walk_at "ev")
  | ((with_reducible apply ed_neI); walk_at "ev"; walk_at "ev")
  | ((with_reducible apply ed_neS); walk_at "ev"; walk_at "ev")
  | ((with_reducible apply ed_neB); walk_at "ev"; walk_at "ev")
  | ((with_reducible apply ed_isN); walk_at "ev"; walk_at "ev")
  | ((with_reducible apply ed_notN); walk_at "ev"; walk_at "ev")
  | ((with_reducible apply ed_chain); walk_at "ev"; walk_at "ev"; walk_at "ev")
  | ((with_reducible apply ed_ixT); walk_at "ev"; walk_at "ev"; walk_at "sd")
  | ((with_reducible apply ed_ixL); walk_at "ev"; walk_at "ev"; walk_at "sd")
  | ((with_reducible apply ed_isi); walk_at "ev"; (first | exact kit_int _ | exact kit_bool _ | exact kit_tuple _ | exact kit_str _))
  | ((with_reducible apply ed_len); walk_at "ev"; walk_at "sd")
  | ((with_reducible apply ed_call); walk_at "ev"; (first | assumption | exact ⟨_, rfl, rfl⟩ | exact ⟨_, _, rfl, rfl⟩ | exact ⟨_, _, _, rfl, rfl⟩); exact rfl)
  | ((with_reducible apply ed_max2); walk_at "ev"; walk_at "ev")
  | ((with_reducible apply ed_min2); walk_at "ev"; walk_at "ev")
  | ((with_reducible apply ed_list); walk_at "ev"; walk_at "sd")
  | ((with_reducible apply ed_tuple); walk_at "ev"; walk_at "sd")
  | ((with_reducible apply ed_neg); walk_at "ev"))

def anyGe (ns : List Int) : Bool := (ns.zip (ns.drop 1)).any fun p => decide (p.2 ≤ p.1)
def lotIn (n : Nat) (x : PyData) : Bool := areNums x n && !anyGe ((itemsOf x).map toI)
def callAt (cs : List Cl) (n : Int) : PyData := (cs.map Cl.data).getD n.toNat .none
def dLot (ss : List Srt) (cs : List Cl) (ns : List Int) : PyData := .tuple [dSorts ss, .tuple (ns.map (callAt cs))]
def dPart (c : Cl) : PyData := .tuple [.int c.b, .int c.e, .int 0, .str c.wo, c.giv, c.told]
def dThing (ss : List Srt) (cs : List Cl) (i : Nat) : PyData := .tuple [.tuple [(ss.map Srt.data).getD i .none], .tuple ((cs.filter fun c => decide (c.th = (i : Int))).map dPart)]
section
variable {P : Program} {w : World} {K : PySem.W.Frag} {mg : Str → Option Value} {base : Heap} {A0 : Ad}
theorem zip_ints (ns ms : List Int) : zipD (ns.map PyData.int) (ms.map PyData.int) = (ns.zip ms).map fun p => .tuple [.int p.1, .int p.2] := by
  unfold zipD
  rw [List.zip_map, List.map_map]
  rfl
abbrev spNeedLot (A0 : Ad) (K : PySem.W.Frag) : Sp := spR K 2 fun ds r => ∃ ss cs x, (itemsOf x).length ≤ 20000 ∧ ds = [dHist ss cs, x] ∧ r = if lotIn cs.length x = true then .ok .none else .er A0.cL x
theorem x_need_lot (T : Tx A0 K w mg) : CalX P w K mg base 3 "need_lot" (spNeedLot A0 K) := by
  have c_are_numbers := c_are_numbers (P := P) (base := base) T
  refine calX_of T.d_need_lot sc_need_lot (fun vs H Q E h => h.1) (fun f cdv A outer s H vs Q E hr h tk => ?_)
  obtain ⟨hl, ds, d, hd, ⟨ss, cs, x, hz, rfl, rfl⟩, k⟩ := h
  refine ⟨_, (pss_one (ps_if (PW.pt (pw_or (pt_not (pt_val (C8.pe_c c_are_numbers hr (by decide) (by rfl) (pa_cons (pv 1) (pa_cons (pe_callB call_len_seq (by rfl) T.len (by decide +kernel) (pa_cons (pe_ix ix_tup (pv 0) pe_int (fun _ _ => rfl)) pa_nil)) pa_nil))))) (pw_or1 (pt_val (pe_callB (cr_any rfl) (by rfl) T.any (by decide +kernel) (pa_cons (pe_lc (own := [("near", 2), ("far", 3)]) (by rfl) sc_need_lot.nd (RZ.pi_zipA (by rfl) T.zip (pa_cons (pv 1) (pa_cons (pe_slice sl_tupA (pv 1) (po_some pe_int) po_none) pa_nil))) (blkOk_by (N := N_need_lot) (sc := (C8.fnScope s_need_lot)) (by decide +kernel)) (fun _ _ _ _ _ => (show PG _ _ (gTup K 2 _) from pg_tup rfl (pgs_cons (pg_name (i := 2) sc_need_lot.nd rfl (by first | exact Or.inl rfl | exact Or.inr rfl)) (pgs_cons (pg_name (i := 3) sc_need_lot.nd rfl (by first | exact Or.inl rfl | exact Or.inr rfl)) pgs_nil)))) (fun _ _ _ _ _ => pts_nil) (fun _ _ _ _ _ => (pe_cmpR op_ge (pv 2) (pv 3) (nomark _)))) pa_nil)))))) (pss_one (ps_rz T.eL (init_L T) rfl tk hr (by decide) (by rfl) (pv 1))) pss_nil)), ?_⟩
  try simp only [cxK, cxK2, List.map_cons, List.map_nil]
  obtain ⟨v, u, rfl, hv, hu⟩ := hd.two
  have hlen : EvD K (tCB (rLenS K) (tCons (tOp (rIxT K) (tVar 0) (tC (.int 1))) tNil)) (start N_need_lot [v, u]) H (.int (cs.length : Int)) := evd_is (ed_len (ed_ixT (ds := [dSorts ss, dCalls cs]) (i := 1) (evd_var rfl hv) ed_int rfl) .t) (by rw [List.length_map])
  refine s_when (b := !lotIn cs.length x) (et_is (et_or (b := anyGe ((itemsOf x).map toI)) (et_not (td_B (ed_call (ead_cons (evd_var rfl hu) (ead_cons hlen ead_nil)) ⟨x, _, by omega, rfl, rfl⟩ rfl))) fun hi => ?_) ?_) (fun h H1 e1 => ?_) fun h H1 e1 => ?_
  · have hi : areNums x cs.length = true := by simpa using hi
    obtain ⟨ns, rfl, hn, ens⟩ := areNums_ints hi
    rw [ens]
    have hz2 : ns.length ≤ 20000 := by
      have hz : (ns.map PyData.int).length ≤ 20000 := hz
      rwa [List.length_map] at hz
    refine et_is (td_B (ed_any (bs := (ns.zip (ns.drop 1)).map fun p => decide (p.2 ≤ p.1)) (evd_is (EvN.d (evn_lcZipT (es := (ns.map PyData.int).drop 1) (fun _ => true) (fun d => .bool (decide (toI ((itemsOf d).getD 1 .none) ≤ toI ((itemsOf d).getD 0 .none)))) (evd_var rfl hu) (sl_from (evd_var rfl hu) ed_int) (by rw [List.length_map]; omega) fun d hd H2 e2 => ?_)) ?_))) ?_
    · rw [← List.map_drop, zip_ints] at hd
      obtain ⟨p, hp, rfl⟩ := List.mem_map.mp hd
      exact tkw_pair (fun _ _ => rfl) (fun _ _ _ _ _ _ => et_yes) (fun _ v1 v2 H3 e3 h1 h2 => ed_b0 (evd_var rfl h1) (evd_var rfl h2)) fun _ => rfl
    · rw [fm_yes, ← List.map_drop, zip_ints, List.map_map, List.map_map]
      rfl
    · rw [List.any_map]
      rfl
  · unfold lotIn
    cases areNums x cs.length <;> simp
  · have h : lotIn cs.length x = false := by simpa using h
    rw [if_neg (by rw [h]; decide)] at k
    exact s_rz (evd_var rfl (hu.ex e1)) fun dd y H3 e3 hx hy => k dd y H3 (e1.trans e3) hx hy
  · have h : lotIn cs.length x = true := by simpa using h
    rw [if_pos h] at k
    exact k _ H1 e1 .non
theorem callAt_of {cs : List Cl} {n : Int} (h0 : 0 ≤ n) (h1 : n < cs.length) : ∃ c ∈ cs, atI (cs.map Cl.data) n = some (callAt cs n) ∧ callAt cs n = c.data := by
  have hlt : n.toNat < cs.length := by omega
  have e1 : cs[n.toNat]? = some cs[n.toNat] := by simp [hlt]
  have e2 : callAt cs n = cs[n.toNat].data := by
    unfold callAt
    rw [List.getD_eq_getElem?_getD, List.getElem?_map, e1]
    rfl
  refine ⟨cs[n.toNat], List.getElem_mem _, atI_of (j := n.toNat) (by omega) ?_, e2⟩
  rw [List.getElem?_map, e1, e2]
  rfl
abbrev spWithNumbers (K : PySem.W.Frag) : Sp := spP K 2 fun ds d => ∃ ss cs ns, (∀ c ∈ cs, noL c.data = true) ∧ (∀ n ∈ ns, 0 ≤ n ∧ n < (cs.length : Int)) ∧ ns.length ≤ 20000 ∧ ds = [dHist ss cs, .tuple (ns.map PyData.int)] ∧ d = dLot ss cs ns
theorem c_with_numbers (T : Tx A0 K w mg) : C8.Cal P w K mg base 1 "with_numbers" (spWithNumbers K) [] := by
  refine cal_of T.d_with_numbers sc_with_numbers (fun vs H Q E h => h.1) (fun f cdv A outer s H vs Q E hr h => ?_)
  obtain ⟨hl, ds, d, hd, ⟨ss, cs, ns, nl, hn, hz, rfl, rfl⟩, k⟩ := h
  refine ⟨_, (pss_one (ps_ret (pe_tup (pa_cons (pe_ix ix_tup (pv 0) pe_int (fun _ _ => rfl)) (pa_cons (pe_callTy call_tuple_of (by rfl) T.tuple (by decide +kernel) (pa_cons (pe_lc (own := [("number", 2)]) (by rfl) sc_with_numbers.nd (pi_tup (pv 1)) (blkOk_by (N := N_with_numbers) (sc := (C8.fnScope s_with_numbers)) (by decide +kernel)) (fun _ _ _ _ _ => (pg_name (i := 2) sc_with_numbers.nd rfl (by first | exact Or.inl rfl | exact Or.inr rfl))) (fun _ _ _ _ _ => pts_nil) (fun _ _ _ _ _ => (pe_ix (show IxR _ (rIxT K) from ix_tup) (pe_ix (show IxR _ (rIxT K) from ix_tup) (pv 0) pe_int (fun _ _ => rfl)) (pv 2) (fun _ _ => rfl)))) pa_nil)) pa_nil))))), ?_⟩
  try simp only [cxK, cxK2, List.map_cons, List.map_nil]
  obtain ⟨v, u, rfl, hv, hu⟩ := hd.two
  refine sd_ret (evd_tup (ead_cons (ed_ixT (ds := [dSorts ss, dCalls cs]) (i := 0) (d := dSorts ss) (evd_var rfl hv) ed_int rfl) (ead_cons (ed_tuple (d := .list _) (EvN.d (evn_is (ds := (ns.map PyData.int).map fun d => callAt cs (toI d)) (es := ns.map (callAt cs)) (lcT_map (fun d => callAt cs (toI d)) (evd_var rfl hu) (by rw [List.length_map]; omega) (fun d hd => ?_) fun d hd x H1 e hx => ?_) ?_)) .l) ead_nil)) (by show 2 ≤ 100000; decide)) k
  · obtain ⟨n, hn', rfl⟩ := List.mem_map.mp hd
    obtain ⟨c, hc, _, h2⟩ := callAt_of (hn n hn').1 (hn n hn').2
    show noL (callAt cs n) = true
    rw [h2]
    exact nl c hc
  · obtain ⟨n, hn', rfl⟩ := List.mem_map.mp hd
    obtain ⟨c, hc, h1, h2⟩ := callAt_of (hn n hn').1 (hn n hn').2
    exact ed_ixT (ed_ixT (ds := [dSorts ss, dCalls cs]) (i := 1) (evd_var rfl (hv.ex e)) ed_int rfl) (evd_var rfl hx) h1
  · rw [List.map_map]
    rfl
abbrev spPartIn (K : PySem.W.Frag) : Sp := spP K 2 fun ds d => ∃ ss cs i, (∀ c ∈ cs, noL c.data = true) ∧ i < ss.length ∧ cs.length ≤ 1000 ∧ ds = [dHist ss cs, .int ((i : Nat) : Int)] ∧ d = dThing ss cs i
theorem c_part_in (T : Tx A0 K w mg) : C8.Cal P w K mg base 1 "part_in" (spPartIn K) [] := by
  refine cal_of T.d_part_in sc_part_in (fun vs H Q E h => h.1) (fun f cdv A outer s H vs Q E hr h => ?_)
  obtain ⟨hl, ds, d, hd, ⟨ss, cs, i, nl, hi, hz, rfl, rfl⟩, k⟩ := h
  refine ⟨_, (pss_cons (ps_setLc (i := 2) (own := [("call", 3)]) (by rfl) sc_part_in.nd rfl rfl (sw_true rfl rfl rfl (by decide +kernel)) (pi_tup (pe_ix ix_tup (pv 0) pe_int (fun _ _ => rfl))) (blkOk_by (N := N_part_in) (sc := (C8.fnScope s_part_in)) (by decide +kernel)) (fun _ _ _ _ _ => (pg_name (i := 3) sc_part_in.nd rfl (by first | exact Or.inl rfl | exact Or.inr rfl))) (fun _ _ _ _ _ => (pts_one (pt_cmpR op_eq (pe_ix (show IxR _ (rIxT K) from ix_tup) (pv 3) pe_int (fun _ _ => rfl)) (pv 1) (nomark _)))) (fun _ _ _ _ _ => (pe_tup (pa_cons (pe_ix (show IxR _ (rIxT K) from ix_tup) (pv 3) pe_int (fun _ _ => rfl)) (pa_cons (pe_ix (show IxR _ (rIxT K) from ix_tup) (pv 3) pe_int (fun _ _ => rfl)) (pa_cons pe_int (show PA _ _ (StX.tStar K _ _) from StX.pa_star (pe_slice (show SlR _ (rSlA K) from sl_tupA) (pv 3) (po_some pe_int) po_none) pa_nil)))))))
        (pss_one (ps_ret (pe_tup (pa_cons (pe_tup (pa_cons (pe_ix ix_tup (pe_ix ix_tup (pv 0) pe_int (fun _ _ => rfl)) (pv 1) (fun _ _ => rfl)) pa_nil)) (pa_cons (pe_callTy call_tuple_of (by rfl) T.tuple (by decide +kernel) (pa_cons (pv 2) pa_nil)) pa_nil)))))), ?_⟩
  try simp only [cxK, cxK2, List.map_cons, List.map_nil]
  obtain ⟨v, u, rfl, hv, hu⟩ := hd.two
  have hat : atI (ss.map Srt.data) (i : Int) = some ((ss.map Srt.data).getD i .none) := by
    refine atI_of rfl ?_
    rw [List.getD_eq_getElem?_getD, List.getElem?_map]
    simp [hi]
  have r := evn_lcT (K := K) (σ := start N_part_in [v, u]) (H := H) (tl := tOp (rIxT K) (tVar 0) (tC (.int 1))) (gt := gName 3) (t := tTest (tOp rEq (tOp (rIxT K) (tVar 3) (tC (.int 2))) (tVar 1))) (te := tTup (tCons (tOp (rIxT K) (tVar 3) (tC (.int 0))) (tCons (tOp (rIxT K) (tVar 3) (tC (.int 1))) (tCons (tC (.int 0)) (StX.tStar K (tSl (rSlA K) (tVar 3) (tPart (tC (.int 3))) tNoPart) tNil))))) (vs := [3])
    (fun d => decide (toI ((itemsOf d).getD 2 .none) = (i : Int))) (fun d => .tuple ((itemsOf d).getD 0 .none :: (itemsOf d).getD 1 .none :: .int 0 :: (itemsOf d).drop 3)) (ed_ixT (ds := [dSorts ss, dCalls cs]) (i := 1) (d := dCalls cs) (evd_var rfl hv) ed_int rfl) (by rw [List.length_map]; omega) fun d hd x H1 e hx => by
      obtain ⟨c, hc, rfl⟩ := List.mem_map.mp hd
      have hx : Dt K No H1 x (.tuple c.items) := hx
      have hu1 := hu.ex e
      refine tk_name (td_test (ed_eqI (ed_ixT (ds := c.items) (i := 2) (d := .int c.th) (evd_var rfl hx) ed_int rfl) (evd_var rfl hu1))) (fun _ => evd_tup (ds := [.int c.b, .int c.e, .int 0] ++ (c.items.drop 3 ++ [])) (ead_cons (ed_ixT (ds := c.items) (i := 0) (evd_var rfl hx) ed_int rfl) (ead_cons (ed_ixT (ds := c.items) (i := 1) (evd_var rfl hx) ed_int rfl) (ead_cons ed_int (ead_star (sl_from (k := 3) (evd_var rfl hx) ed_int) .t ead_nil)))) (by show 6 ≤ 100000; decide)) fun _ => ?_
      have h2 : (SB.noL (.int c.b) && (SB.noL (.int c.e) && (SB.noL (.int c.th) && (SB.noL (.str c.wo) && (SB.noL c.giv && (SB.noL c.told && true)))))) = true := nl c hc
      exact h2
  refine qd_asg r.d fun p H1 e1 hp => ?_
  have hv1 := hv.ex e1
  refine sd_ret (evd_is (evd_tup (ead_cons (evd_tup (ead_cons (ed_ixT (ed_ixT (ds := [dSorts ss, dCalls cs]) (i := 0) (d := dSorts ss) (evd_var rfl hv1) ed_int rfl) (evd_var rfl (hu.ex e1)) hat) ead_nil) (by show 1 ≤ 100000; decide)) (ead_cons (ed_tuple (evd_var rfl hp) .l) ead_nil)) (by show 2 ≤ 100000; decide)) ?_) fun v2 H2 e2 h2 => k v2 H2 (e1.trans e2) h2
  unfold dThing fm
  congr 3
  rw [List.filter_map, List.map_map]
  rfl
abbrev spCallsOfLot (A0 : Ad) (K : PySem.W.Frag) : Sp := spR K 2 fun ds r => (∃ ss cs x, HistOk ss cs ∧ (itemsOf x).length ≤ 20000 ∧ ds = [dHist ss cs, x] ∧ r = if lotIn cs.length x = true then .ok (dLot ss cs ((itemsOf x).map toI)) else .er A0.cL x) ∨ ∃ x, ds = [dWrong, x] ∧ r = .er A0.cH (.str "calls")
theorem x_calls_of_lot (T : Tx A0 K w mg) : CalX P w K mg base 9 "calls_of_lot" (spCallsOfLot A0 K) := by
  have x_need_history := x_need_history (P := P) (base := base) T
  have x_need_lot := x_need_lot (P := P) (base := base) T
  have c_with_numbers := c_with_numbers (P := P) (base := base) T
  refine calX_of T.d_calls_of_lot sc_calls_of_lot (fun vs H Q E h => h.1) (fun f cdv A outer s H vs Q E hr h tk => ?_)
  obtain ⟨hl, ds, d, hd, hx, k⟩ := h
  refine ⟨_, (pss_cons (ps_expr (pe_cX x_need_lot hr tk (fun _ _ _ _ h => h) (by decide) (by rfl) (pa_cons (pe_cX x_need_history hr tk (fun _ _ _ _ h => h) (by decide) (by rfl) (pa_cons (pv 0) pa_nil)) (pa_cons (pv 1) pa_nil))))
        (pss_one (ps_ret (C8.pe_c c_with_numbers hr (by decide) (by rfl) (pa_cons (pv 0) (pa_cons (pv 1) pa_nil)))))), ?_⟩
  try simp only [cxK, cxK2, List.map_cons, List.map_nil]
  rcases hx with ⟨ss, cs, x, ok, hz, rfl, rfl⟩ | ⟨x, rfl, rfl⟩
  · obtain ⟨v, u, rfl, hv, hu⟩ := hd.two
    refine xr_nest (r0 := .ok (dHist ss cs)) (evd_var rfl hv) (evd_var rfl hu) (.inl ⟨ss, cs, ok, rfl, rfl⟩) ⟨_, ⟨ss, cs, x, hz, rfl, rfl⟩, ?_⟩
    cases hL : lotIn cs.length x with
    | true =>
      rw [if_pos hL] at k
      rw [if_pos rfl]
      intro v1 H1 e1 _
      have hA : areNums x cs.length = true := by
        unfold lotIn at hL
        rw [Bool.and_eq_true] at hL
        exact hL.1
      obtain ⟨ns, rfl, hn, ens⟩ := areNums_ints hA
      rw [ens] at k
      have hz2 : ns.length ≤ 20000 := by
        have hz : (ns.map PyData.int).length ≤ 20000 := hz
        rwa [List.length_map] at hz
      exact sd_ret (ed_call (ead_cons (evd_var rfl (hv.ex e1)) (ead_cons (evd_var rfl (hu.ex e1)) ead_nil)) ⟨ss, cs, ns, fun c hc => (ok.co c hc).noL, hn, hz2, rfl, rfl⟩ rfl) fun v2 H2 e2 h2 => k v2 H2 (e1.trans e2) h2
    | false =>
      rw [if_neg (by rw [hL]; decide)] at k
      rw [if_neg (by decide)]
      exact k
  · obtain ⟨v, u, rfl, hv, hu⟩ := hd.two
    exact xr_nest (r0 := .er A0.cH (.str "calls")) (evd_var rfl hv) (evd_var rfl hu) (.inr ⟨rfl, rfl⟩) k
abbrev spHistoryOfThing (A0 : Ad) (K : PySem.W.Frag) : Sp := spR K 2 fun ds r => (∃ ss cs x, HistOk ss cs ∧ ds = [dHist ss cs, x] ∧ r = if thingIn ss.length x = true then .ok (dThing ss cs (toI x).toNat) else .er A0.cT x) ∨ ∃ x, ds = [dWrong, x] ∧ r = .er A0.cH (.str "calls")
theorem x_history_of_thing (T : Tx A0 K w mg) : CalX P w K mg base 9 "history_of_thing" (spHistoryOfThing A0 K) := by
  have x_need_history := x_need_history (P := P) (base := base) T
  have x_need_thing := x_need_thing (P := P) (base := base) T
  have c_part_in := c_part_in (P := P) (base := base) T
  refine calX_of T.d_history_of_thing sc_history_of_thing (fun vs H Q E h => h.1) (fun f cdv A outer s H vs Q E hr h tk => ?_)
  obtain ⟨hl, ds, d, hd, hx, k⟩ := h
  refine ⟨_, (pss_cons (ps_expr (pe_cX x_need_thing hr tk (fun _ _ _ _ h => h) (by decide) (by rfl) (pa_cons (pe_cX x_need_history hr tk (fun _ _ _ _ h => h) (by decide) (by rfl) (pa_cons (pv 0) pa_nil)) (pa_cons (pv 1) pa_nil))))
        (pss_one (ps_ret (C8.pe_c c_part_in hr (by decide) (by rfl) (pa_cons (pv 0) (pa_cons (pv 1) pa_nil)))))), ?_⟩
  try simp only [cxK, cxK2, List.map_cons, List.map_nil]
  rcases hx with ⟨ss, cs, x, ok, rfl, rfl⟩ | ⟨x, rfl, rfl⟩
  · obtain ⟨v, u, rfl, hv, hu⟩ := hd.two
    refine xr_nest (r0 := .ok (dHist ss cs)) (evd_var rfl hv) (evd_var rfl hu) (.inl ⟨ss, cs, ok, rfl, rfl⟩) ⟨_, ⟨ss, cs, x, by have := ok.s4; omega, rfl, rfl⟩, ?_⟩
    cases hL : thingIn ss.length x with
    | true =>
      rw [if_pos hL] at k
      rw [if_pos rfl]
      intro v1 H1 e1 _
      unfold thingIn at hL
      rw [Bool.and_eq_true, Bool.and_eq_true, decide_eq_true_iff, decide_eq_true_iff] at hL
      obtain ⟨h1, h2, h3⟩ := hL
      have ex : x = .int (((toI x).toNat : Nat) : Int) := by
        have e := isInt_is h1
        rw [Int.toNat_of_nonneg h2]
        exact e
      have hu1 : Dt K No H1 u (.int (((toI x).toNat : Nat) : Int)) := by
        rw [← ex]
        exact hu.ex e1
      exact sd_ret (ed_call (ead_cons (evd_var rfl (hv.ex e1)) (ead_cons (evd_var rfl hu1) ead_nil)) ⟨ss, cs, (toI x).toNat, fun c hc => (ok.co c hc).noL, by omega, by have := ok.c10; omega, rfl, rfl⟩ rfl) fun v2 H2 e2 h2 => k v2 H2 (e1.trans e2) h2
    | false =>
      rw [if_neg (by rw [hL]; decide)] at k
      rw [if_neg (by decide)]
      exact k
  · obtain ⟨v, u, rfl, hv, hu⟩ := hd.two
    exact xr_nest (r0 := .er A0.cH (.str "calls")) (evd_var rfl hv) (evd_var rfl hu) (.inr ⟨rfl, rfl⟩) k
end
end SB
end

section
set_option Elab.async false
set_option linter.all false
set_option maxRecDepth 100000
set_option maxHeartbeats 2000000
set_option autoImplicit false
/-! SbL1: the law's draws. -/
namespace SB
open PySem PySem.Spec PyProof.Rows L2 Evl
abbrev s__law_mixed : Stmt := topS 43
abbrev N__law_mixed : List Str := ["_law_cell", "_law_k"]
theorem sc__law_mixed : FnScope N__law_mixed ["_law_cell", "_law_k"] (C8.fnScope s__law_mixed) := C8.fnScope_by (by decide +kernel)
abbrev s__law_draw : Stmt := topS 45
abbrev N__law_draw : List Str := ["_law_state", "_law_many", "_law_at", "_law_place", "_law_left", "_law_number"]
theorem sc__law_draw : FnScope N__law_draw ["_law_state", "_law_many"] (C8.fnScope s__law_draw) := C8.fnScope_by (by decide +kernel)
local macro_rules | `(tactic| walk_at "sd") => `(tactic| first | with_reducible rfl | assumption | exact SeqD.t | exact SeqD.l | rfl | omega)
local macro_rules | `(tactic| walk_at "dt") => `(tactic| first | assumption | exact Dt.int _ | exact Dt.bl _ | exact Dt.str _ | exact Dt.non | exact Dt.ex (by assumption) (by assumption))
local macro_rules | `(tactic| walk_at "ev") => `(tactic| first
  | assumption
  | with_reducible apply ed_int
  | with_reducible apply ed_str
  | with_reducible apply ed_bl
  | with_reducible apply ed_non
  | with_reducible apply ead_nil
  | with_reducible exact et_yes
  | with_reducible exact eo_none
  | exact evd_var rfl (by walk_at "dt")
  | ((with_reducible apply td_test); walk_at "ev")
  | ((with_reducible apply td_B); walk_at "ev")
  | ((with_reducible apply et_not); walk_at "ev")
  | ((with_reducible apply et_and); walk_at "ev"; intro _; walk_at "ev")
  | ((with_reducible apply et_or); walk_at "ev"; intro _; walk_at "ev")
  | ((with_reducible apply ead_cons); walk_at "ev"; walk_at "ev")
  | ((with_reducible apply eod_some); walk_at "ev")
  | ((with_reducible apply evd_tup); walk_at "ev"; first | decide | (focus (simp; done)) | omega)
  | ((with_reducible apply evd_lst); walk_at "ev"; first | decide | (focus (simp; done)) | omega)
  | ((with_reducible apply ed_not); walk_at "ev")
  | ((with_reducible apply ed_and); walk_at "ev"; intro _; walk_at "ev")
  | ((with_reducible apply ed_or); walk_at "ev"; intro _; walk_at "ev")
  | ((with_reducible apply ed_i0); walk_at "ev"; walk_at "ev")
  | ((with_reducible apply ed_b0); walk_at "ev"; walk_at "ev")
  | ((with_reducible apply ed_eqI); walk_at "ev"; walk_at "ev")
  | ((with_reducible apply ed_eqS); walk_at "ev"; walk_at "ev")
  | ((with_reducible apply ed_eqB); walk_at "ev"; walk_at "ev")
  | ((with_reducible apply ed_neI); walk_at "ev"; walk_at "ev")
  | ((with_reducible apply ed_neS); walk_at "ev"; walk_at "ev")
  | ((with_reducible apply ed_neB); walk_at "ev"; walk_at "ev")
  | ((with_reducible apply ed_isN); walk_at "ev"; walk_at "ev")
  | ((with_reducible apply ed_notN); walk_at "ev"; walk_at "ev")
  | ((with_reducible apply ed_chain); walk_at "ev"; walk_at "ev"; walk_at "ev")
  | ((with_reducible apply ed_ixT); walk_at "ev"; walk_at "ev"; walk_at "sd")
  | ((with_reducible apply ed_ixL); walk_at "ev"; walk_at "ev"; walk_at "sd")
  | ((with_reducible apply ed_isi); walk_at "ev"; (first | exact kit_int _ | exact kit_bool _ | exact kit_tuple _ | exact kit_str _))
  | ((with_reducible apply ed_len); walk_at "ev"; walk_at "sd")
  | ((with_reducible apply ed_call); walk_at "ev"; (first | assumption | exact ⟨_, rfl, rfl⟩ | exact ⟨_, _, rfl, rfl⟩ | exact ⟨_, _, _, rfl, rfl⟩); exact rfl)
  | ((with_reducible apply ed_max2); walk_at "ev"; walk_at "ev")
  | ((with_reducible apply ed_min2); walk_at "ev"; walk_at "ev")
  | ((with_reducible apply ed_list); walk_at "ev"; walk_at "sd")
  | ((with_reducible apply ed_tuple); walk_at "ev"; walk_at "sd")
  | ((with_reducible apply ed_neg); walk_at "ev"))

theorem hu_of {k : Nat} {A : Around} (hr : Room k A) : A.units + 1 < cLine := by
  have := hr.units
  omega
def mixF (c k : Int) : Int := ((c % 2147483647) * (48271 + 2 * k * k) + 69621 * k + 11) % 2147483647 * 69621 % 2147483629
theorem mixF_lt (c k : Int) : 0 ≤ mixF c k ∧ mixF c k < 2147483629 := ⟨Int.emod_nonneg _ (by decide), Int.emod_lt_of_pos _ (by decide)⟩
section
variable {P : Program} {w : World} {K : PySem.W.Frag} {mg : Str → Option Value} {base : Heap} {A0 : Ad}
abbrev spMixed (K : PySem.W.Frag) : Sp := spP K 2 fun ds d => ∃ c k : Int, 0 ≤ k ∧ k ≤ 10000000 ∧ ds = [.int c, .int k] ∧ d = .int (mixF c k)
theorem c__law_mixed (T : Tx A0 K w mg) : C8.Cal P w K mg base 1 "_law_mixed" (spMixed K) [] := by
  refine cal_of T.d__law_mixed sc__law_mixed (fun vs H Q E h => h.1) (fun f cdv A outer s H vs Q E hr h => ?_)
  obtain ⟨hl, ds, d, hd, ⟨c, j, h0, h1, rfl, rfl⟩, k⟩ := h
  refine ⟨_, (pss_cons (ps_set (i := 0) sc__law_mixed.nd rfl (by first | exact Or.inl rfl | exact Or.inr rfl) (pe_op op_mod (pe_callTy call_int1 (by rfl) T.int (by decide +kernel) (pa_cons (pv 0) pa_nil)) pe_int))
        (pss_one (ps_ret (pe_op op_mod (pe_op op_mul (pe_op op_mod (pe_op op_add (pe_op op_add (pe_op op_mul (pv 0) (pe_op op_add pe_int (pe_op op_mul (pe_op op_mul pe_int (pv 1)) (pv 1)))) (pe_op op_mul pe_int (pv 1))) pe_int) pe_int) pe_int) pe_int)))), ?_⟩
  try simp only [cxK, cxK2, List.map_cons, List.map_nil]
  obtain ⟨v, u, rfl, hv, hu⟩ := hd.two
  have b1 : 0 ≤ c % 2147483647 ∧ c % 2147483647 < 2147483647 := ⟨Int.emod_nonneg _ (by decide), Int.emod_lt_of_pos _ (by decide)⟩
  refine qd_asg (d := .int (c % 2147483647)) (ed_i (C := fun _ j => 0 < j) (ed_int1 (evd_var rfl hv)) ed_int (by decide)) fun z H1 e1 hz => ?_
  have hu := hu.ex e1
  have hzv : EvD K (tVar 0) ((start N__law_mixed [v, u]).set 0 (some z)) H1 (.int (c % 2147483647)) := evd_var rfl hz
  have huv : EvD K (tVar 1) ((start N__law_mixed [v, u]).set 0 (some z)) H1 (.int j) := evd_var rfl hu
  have e2 : EvD K (tOp (rI CMul fun i j => .int (i * j)) (tC (.int 2)) (tVar 1)) ((start N__law_mixed [v, u]).set 0 (some z)) H1 (.int (2 * j)) := ed_i (C := CMul) ed_int huv (.inl ⟨by decide, by decide⟩)
  have e3 := ed_i (C := CMul) (g := fun i j => i * j) e2 huv (.inl ⟨by omega, by omega⟩)
  have e4 := ed_i0 (g := fun i j => i + j) (ed_int (K := K) (i := 48271)) e3
  have e5 := ed_i (C := CMul) (g := fun i j => i * j) hzv e4 (.inl ⟨by omega, by omega⟩)
  have e6 : EvD K (tOp (rI CMul fun i j => .int (i * j)) (tC (.int 69621)) (tVar 1)) ((start N__law_mixed [v, u]).set 0 (some z)) H1 (.int (69621 * j)) := ed_i (C := CMul) ed_int huv (.inl ⟨by decide, by decide⟩)
  have e7 := ed_i0 (g := fun i j => i + j) (ed_i0 (g := fun i j => i + j) e5 e6) (ed_int (i := 11))
  have e8 := ed_i (C := fun _ j => 0 < j) (g := fun i j => i % j) e7 (ed_int (i := 2147483647)) (by decide)
  have b2 := Int.emod_lt_of_pos ((c % 2147483647) * (48271 + 2 * j * j) + 69621 * j + 11) (b := 2147483647) (by decide)
  have b3 := Int.emod_nonneg ((c % 2147483647) * (48271 + 2 * j * j) + 69621 * j + 11) (b := 2147483647) (by decide)
  have e9 := ed_i (C := CMul) (g := fun i j => i * j) e8 (ed_int (i := 69621)) (.inl ⟨by omega, by omega⟩)
  have e10 := ed_i (C := fun _ j => 0 < j) (g := fun i j => i % j) e9 (ed_int (i := 2147483629)) (by decide)
  exact sd_ret (d := .int (mixF c j)) e10 fun v2 H2 e2 h2 => k v2 H2 (e1.trans e2) h2
end
/-! ### the state -/
abbrev kC : Key := .inr "cells"
abbrev kL : Key := .inr "lefts"
abbrev kA : Key := .inr "at"
abbrev kR : Key := .inr "room"
def stD (C L : Addr) (at_ : Int) : HO := .dK [(kC, .ref C), (kL, .ref L), (kA, .int at_), (kR, .int 0)]
/-- the places of the state -/
structure Sp3 where
  (S C L : Addr)
def Sp3.bar (z : Sp3) : Addr → Prop := fun a => a = z.S ∨ a = z.L
/-- the state stands, j more draws are allowed -/
structure SW (z : Sp3) (H : Hp) (j : Nat) : Prop where
  ex : ∃ (cs ls : List Int) (at_ : Int), H z.S = some (stD z.C z.L at_) ∧ H z.C = some (.lst (cs.map V.int)) ∧ H z.L = some (.lst (ls.map V.int)) ∧ cs.length = ls.length ∧ 0 < cs.length ∧ cs.length ≤ 1000 ∧ 0 ≤ at_ ∧ at_ + j ≤ 1000000
  ne : z.C ≠ z.L
theorem SW.le {z : Sp3} {H : Hp} {i j : Nat} (s : SW z H j) (h : i ≤ j) : SW z H i := by
  obtain ⟨cs, ls, at_, h1, h2, h3, h4, h5, h6, h8, h9⟩ := s.ex
  exact ⟨⟨cs, ls, at_, h1, h2, h3, h4, h5, h6, h8, by omega⟩, s.ne⟩
theorem SW.mono {z : Sp3} {H H' : Hp} {j : Nat} (s : SW z H j) (e : Ex H H') : SW z H' j := by
  obtain ⟨cs, ls, at_, h1, h2, h3, h⟩ := s.ex
  exact ⟨⟨cs, ls, at_, e _ _ h1, e _ _ h2, e _ _ h3, h⟩, s.ne⟩
section
variable {K : PySem.W.Frag} {H H' H1 : Hp} {z : Sp3}
theorem Kp.ex {B : Addr → Prop} (x : Kp B H H1) (e : Ex H1 H') : Kp B H H' := x.trans (Kp.of e)
/-- the promise of a draw: from 0 to below m -/
def spDraw (z : Sp3) : Sp := fun vs H Q _ => ∃ (m : Int) (j : Nat), vs = [.ref z.S, .int m] ∧ 0 < m ∧ m ≤ 1000000 ∧ SW z H (j + 1) ∧ ∀ r H', 0 ≤ r → r < m → Kp z.bar H H' → SW z H' j → Q (.int r) H'
theorem kp_upd {B : Addr → Prop} {a : Addr} {o o' : HO} (ha : B a) (h : H a = some o) (h1 : ∀ xs, o ≠ .tup xs) (h2 : o ≠ .dK []) (h3 : ∀ p q, o ≠ .frz p q) : Kp B H (upd H a o') := by
  refine ⟨fun b o nb hb => ?_, fun b xs hb => ?_, fun b hb => ?_, fun b o u hb => ?_⟩
  · rw [upd_ne fun e => nb (by rw [e]; exact ha)]
    exact hb
  · rw [upd_ne (fun e => by rw [e, h] at hb; exact h1 _ (Option.some.inj hb))]
    exact hb
  · rw [upd_ne (fun e => by rw [e, h] at hb; exact h2 (Option.some.inj hb))]
    exact hb
  · rw [upd_ne (fun e => by rw [e, h] at hb; exact h3 _ _ (Option.some.inj hb))]
    exact hb
theorem log2_m {m : Int} (h0 : 0 < m) (h : m ≤ 1000000) : m.natAbs.log2 < 9000 := by
  rw [Nat.log2_lt (by omega)]
  have h1 : m.natAbs < 2 ^ 20 := by omega
  exact Nat.lt_of_lt_of_le h1 (Nat.pow_le_pow_right (by decide) (by decide))
theorem val_C {C L : V} {a b : V} : valV ([(kC, C), (kL, L), (kA, a), (kR, b)] : List (Key × V)) kC = some C := rfl
theorem val_L {C L : V} {a b : V} : valV ([(kC, C), (kL, L), (kA, a), (kR, b)] : List (Key × V)) kL = some L := rfl
theorem val_A {C L : V} {a b : V} : valV ([(kC, C), (kL, L), (kA, a), (kR, b)] : List (Key × V)) kA = some a := rfl
theorem put_A {C L : V} {a b c : V} : putK ([(kC, C), (kL, L), (kA, a), (kR, b)] : List (Key × V)) kA c = [(kC, C), (kL, L), (kA, c), (kR, b)] := rfl
variable {P : Program} {w : World} {mg : Str → Option Value} {base : Heap} {A0 : Ad} {σ : L2.St}
/-- state['..'] -/
theorem ev_get {i : Nat} {at_ : Int} {C L S : Addr} {x : Str} {v : V} (h : σ[i]? = some (some (.ref S))) (hS : H S = some (stD C L at_)) (hv : valV ([(kC, .ref C), (kL, .ref L), (kA, .int at_), (kR, .int 0)] : List (Key × V)) (.inr x) = some v) : Ev (tDGet (tVar i) (tC (.str x))) σ H v := fun H1 e Q q =>
  ⟨_, h, S, v, rfl, by rw [← hv]; exact DGet.k (k := .inr x) (e _ _ hS), q H1 (Ex.refl H1)⟩
theorem q_putA {i : Nat} {at_ b : Int} {C L S : Addr} {tv : TE} {tz : TS} {D : Ends} (h : σ[i]? = some (some (.ref S))) (hS : H S = some (stD C L at_)) (hv : Ev tv σ H (.int b)) (k : ∀ H1, Ex H H1 → tz D σ (upd H1 S (stD C L b))) : tSeq (sDPut (tVar i) (tC (.str "at")) tv) tz D σ H :=
  ev_go hv fun H2 e2 => ⟨_, h, S, _, rfl, DPut.k (k := kA) (e2 _ _ hS) (by show 4 < sizeLine; decide), k H2 e2⟩
theorem c__law_draw (T : Tx A0 K w mg) (z : Sp3) : C8.Cal P w K mg base 2 "_law_draw" (spDraw z) [] := by
  have c__law_mixed := c__law_mixed (P := P) (base := base) T
  refine cal_of T.d__law_draw sc__law_draw (fun vs H Q E h => by obtain ⟨m, j, rfl, _⟩ := h; rfl) (fun f cdv A outer s H vs Q E hr h => ?_)
  obtain ⟨m, j, rfl, m0, m1, sw, k⟩ := h
  refine ⟨_, (pss_cons (ps_set (i := 2) sc__law_draw.nd rfl (by first | exact Or.inl rfl | exact Or.inr rfl) (pe_dget (hu_of hr) (pv 0) pe_str (fun _ _ => rfl)))
        (pss_cons (ps_dput (hu_of hr) (pv 0) pe_str (pe_op op_add (pv 2) pe_int) rfl)
        (pss_cons (ps_set (i := 3) sc__law_draw.nd rfl (by first | exact Or.inl rfl | exact Or.inr rfl) (pe_op op_mod (pe_callTy call_int1 (by rfl) T.int (by decide +kernel) (pa_cons (pv 2) pa_nil)) (pe_callB call_len_seq (by rfl) T.len (by decide +kernel) (pa_cons (pe_dget (hu_of hr) (pv 0) pe_str (fun _ _ => rfl)) pa_nil))))
        (pss_cons (ps_set (i := 4) sc__law_draw.nd rfl (by first | exact Or.inl rfl | exact Or.inr rfl) (pe_ix ix_list (pe_dget (hu_of hr) (pv 0) pe_str (fun _ _ => rfl)) (pv 3) (fun _ _ => rfl)))
        (pss_cons (ps_if (pt_cmpR op_gt (pv 4) pe_int (nomark _)) (pss_cons (ps_asg (pe_op op_fdivW (pv 4) (pv 1)) (pg_sub (pe_dget (hu_of hr) (pv 0) pe_str (fun _ _ => rfl)) (pv 3) set_list))
          (pss_one (ps_ret (pe_op op_mod (pe_callTy call_int1 (by rfl) T.int (by decide +kernel) (pa_cons (pv 4) pa_nil)) (pv 1))))) pss_nil)
        (pss_cons (ps_set (i := 5) sc__law_draw.nd rfl (by first | exact Or.inl rfl | exact Or.inr rfl) (C8.pe_c c__law_mixed hr (by decide) (by rfl) (pa_cons (C8.pe_c c__law_mixed hr (by decide) (by rfl) (pa_cons (pe_ix ix_list (pe_dget (hu_of hr) (pv 0) pe_str (fun _ _ => rfl)) (pv 3) (fun _ _ => rfl)) (pa_cons (pv 2) pa_nil))) (pa_cons (pe_op op_add pe_int (pv 2)) pa_nil))))
        (pss_one (ps_ret (pe_op op_mod (pe_op op_fdivW (pe_callTy call_int1 (by rfl) T.int (by decide +kernel) (pa_cons (pe_op op_add (pe_op op_mul (pv 5) pe_int) (C8.pe_c c__law_mixed hr (by decide) (by rfl) (pa_cons (pv 5) (pa_cons (pe_op op_add pe_int (pv 2)) pa_nil)))) pa_nil)) pe_int) (pv 1)))))))))), ?_⟩
  try simp only [cxK, cxK2, List.map_cons, List.map_nil]
  obtain ⟨cs, ls, at_, hS, hC, hL, hcl, hc0, hc1, ha0, ha1⟩ := sw.ex
  have nSC : z.C ≠ z.S := ne_of hC hS (by intro z; cases z)
  have nSL : z.L ≠ z.S := ne_of hL hS (by intro z; cases z)
  refine q_asg (ev_get (x := "at") rfl hS val_A) fun H1 e1 => ?_
  have hS1 := e1 _ _ hS
  have hC1 := e1 _ _ hC
  have hL1 := e1 _ _ hL
  -- at + 1
  refine q_putA (at_ := at_) (b := at_ + 1) rfl hS1 (EvD.i (K := K) (ed_i0 (evd_var (d := .int at_) rfl (.int _)) ed_int)) fun H2 e2 => ?_
  have hS2 := e2 _ _ hS1
  have hC2 := e2 _ _ hC1
  have hL2 := e2 _ _ hL1
  have kp2 : Kp z.bar H (upd H2 z.S (stD z.C z.L (at_ + 1))) := (Kp.of (e1.trans e2)).trans (kp_upd (.inl rfl) hS2 (fun _ z => by cases z) (fun z => by cases z) (fun _ _ z => by cases z))
  obtain ⟨H3, e3⟩ : ∃ H3, upd H2 z.S (stD z.C z.L (at_ + 1)) = H3 := ⟨_, rfl⟩
  have hS3 : H3 z.S = some (stD z.C z.L (at_ + 1)) := by
    rw [← e3]
    exact upd_same
  have hC3 : H3 z.C = some (.lst (cs.map V.int)) := by
    rw [← e3, upd_ne nSC]
    exact hC2
  have hL3 : H3 z.L = some (.lst (ls.map V.int)) := by
    rw [← e3, upd_ne nSL]
    exact hL2
  rw [e3] at kp2 ⊢
  clear e3 hS1 hC1 hL1 hS2 hC2 hL2
  -- place
  have m0' : (0 : Int) < cs.length := by omega
  have p0 := Int.emod_nonneg at_ (b := (cs.length : Int)) (by omega)
  have p1 := Int.emod_lt_of_pos at_ m0'
  obtain ⟨p, hp⟩ : ∃ p : Nat, at_ % (cs.length : Int) = (p : Int) := ⟨(at_ % (cs.length : Int)).toNat, by omega⟩
  have hpl : p < cs.length := by omega
  refine q_asg (v := .int (p : Int)) ?_ fun H4 e4 => ?_
  · have h1 : Ev (tCB (rLenS K) (tCons (tDGet (tVar 0) (tC (.str "cells"))) tNil)) ((start N__law_draw [V.ref z.S, V.int m]).set 2 (some (.int at_))) H3 (.int ((cs.map V.int).length : Nat)) := ev_len (ev_get rfl hS3 val_C) (SqL.of hC3)
    have h2 := evd_i (K := K) h1
    rw [List.length_map] at h2
    have h3 := ed_i (C := fun _ j => 0 < j) (g := fun i j => i % j) (ed_int1 (evd_var (K := K) (σ := (start N__law_draw [V.ref z.S, V.int m]).set 2 (some (.int at_))) (H := H3) (i := 2) (d := .int at_) rfl (.int _))) h2 m0'
    rw [hp] at h3
    exact h3.i
  have hS4 := e4 _ _ hS3
  have hC4 := e4 _ _ hC3
  have hL4 := e4 _ _ hL3
  obtain ⟨l, hl⟩ : ∃ l, ls[p]? = some l := ⟨ls[p], by simp [hcl ▸ hpl]⟩
  obtain ⟨c, hc⟩ : ∃ c, cs[p]? = some c := ⟨cs[p], by simp [hpl]⟩
  have atL : atI (ls.map V.int) (p : Int) = some (.int l) := atI_of rfl (by rw [List.getElem?_map, hl]; rfl)
  have atC : atI (cs.map V.int) (p : Int) = some (.int c) := atI_of rfl (by rw [List.getElem?_map, hc]; rfl)
  refine q_asg (v := .int l) (ev_op (ev_get rfl hS4 val_L) (ev_var rfl) (rv_ixL (SqL.of hL4) atL)) fun H5 e5 => ?_
  have hS5 := e5 _ _ hS4
  have hC5 := e5 _ _ hC4
  have hL5 := e5 _ _ hL4
  have kp5 := kp2.ex (e4.trans e5)
  refine q_when (b := decide (0 < l)) (td_test (K := K) (ed_b0 (g := fun i j => decide (j < i)) (evd_var (d := .int l) rfl (.int _)) ed_int)) (fun hb H6 e6 => ?_) fun hb H6 e6 => ?_
  · have hS6 := e6 _ _ hS5
    have hC6 := e6 _ _ hC5
    have hL6 := e6 _ _ hL5
    refine q_setL hL6 (EvD.i (K := K) (ed_i (C := CDivW) (g := fun i j => i / j) (evd_var (d := .int l) rfl (.int _)) (evd_var (d := .int m) rfl (.int _)) ⟨m0, log2_m m0 m1⟩)) (ev_get rfl hS6 val_L) (ev_var rfl) (by rw [List.length_map]; omega) fun H7 e7 => ?_
    have hS7 := e7 _ _ hS6
    have hC7 := e7 _ _ hC6
    have hL7 := e7 _ _ hL6
    refine sd_ret (K := K) (d := .int (l % m)) (ed_i (C := fun _ j => 0 < j) (g := fun i j => i % j) (ed_int1 (evd_var (d := .int l) rfl (.int _))) (evd_var (d := .int m) rfl (.int _)) m0) fun v H8 e8 hv => ?_
    rw [hv.toInt]
    refine k _ H8 (Int.emod_nonneg _ (by omega)) (Int.emod_lt_of_pos _ m0) (((kp5.ex (e6.trans e7)).trans (kp_upd (.inr rfl) hL7 (fun _ z => by cases z) (fun z => by cases z) (fun _ _ z => by cases z))).ex e8) ⟨⟨cs, ls.set p (l / m), at_ + 1, ?_, ?_, ?_, by rw [List.length_set]; exact hcl, hc0, hc1, by omega, by omega⟩, sw.ne⟩
    · refine e8 _ _ ?_
      rw [upd_ne (Ne.symm nSL)]
      exact hS7
    · refine e8 _ _ ?_
      rw [upd_ne sw.ne]
      exact hC7
    · refine e8 _ _ ?_
      rw [upd_same, List.map_set]
  · have hS6 := e6 _ _ hS5
    have hC6 := e6 _ _ hC5
    have hL6 := e6 _ _ hL5
    have kp6 := kp5.ex e6
    have hcell : EvD K (tOp (rIxL K) (tDGet (tVar 0) (tC (.str "cells"))) (tVar 3)) ((((start N__law_draw [V.ref z.S, V.int m]).set 2 (some (.int at_))).set 3 (some (.int (p : Int)))).set 4 (some (.int l))) H6 (.int c) := evd_i (ev_op (ev_get rfl hS6 val_C) (ev_var rfl) (rv_ixL (SqL.of hC6) atC))
    refine qd_asg (d := .int (mixF (mixF c at_) (40 + at_))) (ed_call (ead_cons (ed_call (ead_cons hcell (ead_cons (evd_var (d := .int at_) rfl (.int _)) ead_nil)) ⟨c, at_, ha0, by omega, rfl, rfl⟩ rfl) (ead_cons (ed_i0 (g := fun i j => i + j) (ed_int (i := 40)) (evd_var (d := .int at_) rfl (.int _))) ead_nil)) ⟨_, 40 + at_, by omega, by omega, rfl, rfl⟩ rfl) fun v H7 e7 hv => ?_
    have hv : Dt K No H7 v (.int (mixF (mixF c at_) (40 + at_))) := hv
    have b1 := mixF_lt (mixF c at_) (40 + at_)
    obtain ⟨x, hx⟩ : ∃ x, mixF (mixF c at_) (40 + at_) = x := ⟨_, rfl⟩
    rw [hx] at hv b1
    have e8 := ed_i (C := CMul) (g := fun i j => i * j) (evd_var (K := K) (σ := ((((start N__law_draw [V.ref z.S, V.int m]).set 2 (some (.int at_))).set 3 (some (.int (p : Int)))).set 4 (some (.int l))).set 5 (some v)) (i := 5) rfl hv) (ed_int (i := 2147483647)) (.inl ⟨by omega, by omega⟩)
    have e9 : EvD K (tCall (spMixed K) [] C8.E0 (tCons (tVar 5) (tCons (tOp (rI0 fun i j => .int (i + j)) (tC (.int 7)) (tVar 2)) tNil))) (((((start N__law_draw [V.ref z.S, V.int m]).set 2 (some (.int at_))).set 3 (some (.int (p : Int)))).set 4 (some (.int l))).set 5 (some v)) H7 (.int (mixF x (7 + at_))) := ed_call (ead_cons (evd_var rfl hv) (ead_cons (ed_i0 (g := fun i j => i + j) (ed_int (i := 7)) (evd_var (d := .int at_) rfl (.int _))) ead_nil)) ⟨x, 7 + at_, by omega, by omega, rfl, rfl⟩ rfl
    have e10 := ed_i (C := fun _ j => 0 < j) (g := fun i j => i % j) (ed_i (C := CDivW) (g := fun i j => i / j) (ed_int1 (ed_i0 (g := fun i j => i + j) e8 e9)) (ed_int (i := 64)) ⟨by decide, by decide⟩) (evd_var (i := 1) (d := .int m) rfl (.int _)) m0
    refine sd_ret e10 fun v2 H8 e8 hv2 => ?_
    rw [hv2.toInt]
    exact k _ H8 (Int.emod_nonneg _ (by omega)) (Int.emod_lt_of_pos _ m0) (kp6.ex (e7.trans e8)) ⟨⟨cs, ls, at_ + 1, e8 _ _ (e7 _ _ hS6), e8 _ _ (e7 _ _ hC6), e8 _ _ (e7 _ _ hL6), hcl, hc0, hc1, by omega, by omega⟩, sw.ne⟩
end
end SB
end

section
set_option Elab.async false
set_option linter.all false
set_option maxRecDepth 100000
set_option maxHeartbeats 2000000
set_option autoImplicit false
/-! SbL2: small defs of the law. -/
namespace SB
open PySem PySem.Spec PyProof.Rows L2 Evl
abbrev s__law_of : Stmt := topS 46
abbrev N__law_of : List Str := ["_law_state", "_law_some"]
theorem sc__law_of : FnScope N__law_of ["_law_state", "_law_some"] (C8.fnScope s__law_of) := C8.fnScope_by (by decide +kernel)
abbrev s__law_value : Stmt := topS 50
abbrev N__law_value : List Str := ["_law_state", "_law_used", "_law_free", "_law_one"]
theorem sc__law_value : FnScope N__law_value ["_law_state", "_law_used"] (C8.fnScope s__law_value) := C8.fnScope_by (by decide +kernel)
abbrev s__law_is_whole : Stmt := topS 56
abbrev N__law_is_whole : List Str := ["_law_thing", "_law_least", "_law_most"]
theorem sc__law_is_whole : FnScope N__law_is_whole ["_law_thing", "_law_least", "_law_most"] (C8.fnScope s__law_is_whole) := C8.fnScope_by (by decide +kernel)
abbrev s__law_store : Stmt := topS 47
abbrev N__law_store : List Str := ["_law_sort"]
theorem sc__law_store : FnScope N__law_store ["_law_sort"] (C8.fnScope s__law_store) := C8.fnScope_by (by decide +kernel)
local macro_rules | `(tactic| walk_at "sd") => `(tactic| first | with_reducible rfl | assumption | exact SeqD.t | exact SeqD.l | rfl | omega)
local macro_rules | `(tactic| walk_at "dt") => `(tactic| first | assumption | exact Dt.int _ | exact Dt.bl _ | exact Dt.str _ | exact Dt.non | exact Dt.ex (by assumption) (by assumption))
local macro_rules | `(tactic| walk_at "ev") => `(tactic| first
  | assumption
  | with_reducible apply ed_int
  | with_reducible apply ed_str
  | with_reducible apply ed_bl
  | with_reducible apply ed_non
  | with_reducible apply ead_nil
  | with_reducible exact et_yes
  | with_reducible exact eo_none
  | exact evd_var rfl (by walk_at "dt")
  | ((with_reducible apply td_test); walk_at "ev")
  | ((with_reducible apply td_B); walk_at "ev")
  | ((with_reducible apply et_not); walk_at "ev")
  | ((with_reducible apply et_and); walk_at "ev"; intro _; walk_at "ev")
  | ((with_reducible apply et_or); walk_at "ev"; intro _; walk_at "ev")
  | ((with_reducible apply ead_cons); walk_at "ev"; walk_at "ev")
  | ((with_reducible apply eod_some); walk_at "ev")
  | ((with_reducible apply evd_tup); walk_at "ev"; first | decide | (focus (simp; done)) | omega)
  | ((with_reducible apply evd_lst); walk_at "ev"; first | decide | (focus (simp; done)) | omega)
  | ((with_reducible apply ed_not); walk_at "ev")
  | ((with_reducible apply ed_and); walk_at "ev"; intro _; walk_at "ev")
  | ((with_reducible apply ed_or); walk_at "ev"; intro _; walk_at "ev")
  | ((with_reducible apply ed_i0); walk_at "ev"; walk_at "ev")
  | ((with_reducible apply ed_b0); walk_at "ev"; walk_at "ev")
  | ((with_reducible apply ed_eqI); walk_at "ev"; walk_at "ev")
  | ((with_reducible apply ed_eqS); walk_at "ev"; walk_at "ev")
  | ((with_reducible apply ed_eqB); walk_at "ev"; walk_at "ev")
  | ((with_reducible apply ed_neI); walk_at "ev"; walk_at "ev")
  | ((with_reducible apply ed_neS); walk_at "ev"; walk_at "ev")
  | ((with_reducible apply ed_neB); walk_at "ev"; walk_at "ev")
  | ((with_reducible apply ed_isN); walk_at "ev"; walk_at "ev")
  | ((with_reducible apply ed_notN); walk_at "ev"; walk_at "ev")
  | ((with_reducible apply ed_chain); walk_at "ev"; walk_at "ev"; walk_at "ev")
  | ((with_reducible apply ed_ixT); walk_at "ev"; walk_at "ev"; walk_at "sd")
  | ((with_reducible apply ed_ixL); walk_at "ev"; walk_at "ev"; walk_at "sd")
  | ((with_reducible apply ed_isi); walk_at "ev"; (first | exact kit_int _ | exact kit_bool _ | exact kit_tuple _ | exact kit_str _))
  | ((with_reducible apply ed_len); walk_at "ev"; walk_at "sd")
  | ((with_reducible apply ed_call); walk_at "ev"; (first | assumption | exact ⟨_, rfl, rfl⟩ | exact ⟨_, _, rfl, rfl⟩ | exact ⟨_, _, _, rfl, rfl⟩); exact rfl)
  | ((with_reducible apply ed_max2); walk_at "ev"; walk_at "ev")
  | ((with_reducible apply ed_min2); walk_at "ev"; walk_at "ev")
  | ((with_reducible apply ed_list); walk_at "ev"; walk_at "sd")
  | ((with_reducible apply ed_tuple); walk_at "ev"; walk_at "sd")
  | ((with_reducible apply ed_neg); walk_at "ev"))

/-! ### rules -/
section
variable {X : Cx}
theorem hu65 {k : Nat} {A : Around} (hr : Room k A) : A.units + 65 < cLine := by
  have := hr.un
  omega
/-- x in a tuple of data -/
def rInTD (K : PySem.W.Frag) : R2 := fun x y H Q => ∃ d ds, Dp K H x d ∧ Dp K H y (.tuple ds) ∧ SeqAt.shaped d = true ∧ SeqAt.shaped (.tuple ds) = true ∧ Q (.bl (ds.any fun z => PyData.eqv z d)) H
theorem op_inTD (hu : X.A.units + 65 < cLine) : OpR X (compareOp .In) (rInTD X.K) := by
  intro pins s σ H x y v u Q I rx ry h
  obtain ⟨d, ds, hd, he, sd, se, q⟩ := h
  obtain ⟨as, r1⟩ := Dp.reads I d x v hd rx
  obtain ⟨bs, r2⟩ := Dp.reads I (.tuple ds) y u he ry
  exact SeqAt.in_tuple_reads r2 r1 (SeqAt.canLay_of_shaped se) (SeqAt.canLay_of_shaped sd) (room_in_shaped sd hu) ⟨.bl _, H, I, rfl, q⟩
end
section
variable {K : PySem.W.Frag} {σ : L2.St} {H H' : Hp} {ta tb te tl : TE} {d e : PyData}
theorem ed_inTD {ds : List PyData} (ha : EvD K ta σ H d) (hb : EvD K tb σ H (.tuple ds)) (sd : SeqAt.shaped d = true) (se : SeqAt.shaped (.tuple ds) = true) : EvD K (tOp (rInTD K) ta tb) σ H (.bool (ds.any fun z => PyData.eqv z d)) := evd_b (ev_opD ha hb fun x y H1 _ hx hy Q q => ⟨d, ds, dp_of hx sd, dp_of hy se, sd, se, q⟩)
theorem shaped_str {x : Str} (h : PyData.strOk x = true) : SeqAt.shaped (.str x) = true := by
  unfold SeqAt.shaped PyData.canLay0 PyData.depth
  rw [h]
  rfl
theorem shaped_int {x : Int} : SeqAt.shaped (.int x) = true := by
  unfold SeqAt.shaped PyData.canLay0 PyData.depth
  rfl
theorem shaped_srt (s : Srt) : SeqAt.shaped s.data = true := by
  cases s with
  | room n =>
    unfold Srt.data SeqAt.shaped
    simp only [PyData.canLay0, PyData.canLayAll0, PyData.depth, PyData.depthAll]
    have e : PyData.strOk (Str.ofString "room") = true := by decide +kernel
    rw [e]
    rfl
  | _ => exact shaped_str (by decide +kernel)
theorem eqv_srt (s : Srt) (x : Str) (h : ∀ n, s = .room n → s.name ≠ x) : PyData.eqv s.data (.str x) = decide (s.name = x) := by
  cases s with
  | room n =>
    have := h n rfl
    rw [decide_eq_false this]
    simp only [Srt.data, PyData.eqv]
  | _ =>
    simp only [Srt.data, PyData.eqv]
    rw [Bool.eq_iff_iff, beq_iff_eq, decide_eq_true_iff]
/-- a draw goes on -/
theorem draw_go {z : Sp3} {i : Nat} {m : Int} {j : Nat} {tm : TE} {Q : VK} (hS : σ[i]? = some (some (.ref z.S))) (sw : SW z H (j + 1)) (hm : EvD K tm σ H (.int m)) (h0 : 0 < m) (h1 : m ≤ 1000000) (q : ∀ r H2, 0 ≤ r → r < m → Kp z.bar H H2 → SW z H2 j → Q (.int r) H2) :
    tCall (spDraw z) [] C8.E0 (tCons (tVar i) (tCons tm tNil)) σ H Q := ⟨_, hS, hm.go fun v H1 e hv => by
  rw [hv.toInt]
  exact ⟨m, j, rfl, h0, h1, sw.mono e, fun r H2 r0 r1 kp s2 => q r H2 r0 r1 ((Kp.of e).trans kp) s2⟩⟩
theorem op_go {r : R2} {Q : VK} (h : ta σ H fun x H1 => tb σ H1 fun y H2 => r x y H2 Q) : tOp r ta tb σ H Q := h
theorem ret_go {D : Ends} (h : te σ H D.rt) : tRet te D σ H := h
theorem asg_go {i : Nat} {tz : TS} {D : Ends} (h : te σ H fun v H1 => tz D (σ.set i (some v)) H1) : tSeq (tAsg te (gName i)) tz D σ H := h
theorem DtAll.memAt {B : Addr → Prop} {vs : List V} {ds : List PyData} (h : DtAll K B H vs ds) {i : Nat} (hi : i < ds.length) : ∃ v d, vs[i]? = some v ∧ ds[i]? = some d ∧ d ∈ ds ∧ Dt K B H v d := by
  obtain ⟨v, h1, h2⟩ := h.at (i := i) (d := ds[i]) (by simp [hi])
  exact ⟨v, ds[i], h1, by simp [hi], List.getElem_mem _, h2⟩
end
section
variable {P : Program} {w : World} {K : PySem.W.Frag} {mg : Str → Option Value} {base : Heap} {A0 : Ad}
/-- one of a list -/
def spOf (K : PySem.W.Frag) (z : Sp3) : Sp := fun vs H Q _ => ∃ x ds j, vs = [.ref z.S, x] ∧ Dt K z.bar H x (.list ds) ∧ ds ≠ [] ∧ ds.length ≤ 1000 ∧ SW z H (j + 1) ∧ ∀ d ∈ ds, ∀ v H', Kp z.bar H H' → SW z H' j → Dt K z.bar H' v d → Q v H'
theorem c__law_of (T : Tx A0 K w mg) (z : Sp3) : C8.Cal P w K mg base 3 "_law_of" (spOf K z) [] := by
  have c__law_draw := c__law_draw (P := P) (base := base) T z
  refine cal_of T.d__law_of sc__law_of (fun vs H Q E h => by obtain ⟨x, ds, j, rfl, _⟩ := h; rfl) (fun f cdv A outer s H vs Q E hr h => ?_)
  obtain ⟨x, ds, j, rfl, hx, hne, hz, sw, k⟩ := h
  refine ⟨_, (pss_one (ps_ret (pe_ix ix_list (pv 1) (C8.pe_c c__law_draw hr (by decide) (by rfl) (pa_cons (pv 0) (pa_cons (pe_callB call_len_seq (by rfl) T.len (by decide +kernel) (pa_cons (pv 1) pa_nil)) pa_nil))) (fun _ _ => rfl)))), ?_⟩
  try simp only [cxK, cxK2, List.map_cons, List.map_nil]
  have hlen : 0 < ds.length := List.length_pos_iff.mpr hne
  refine ret_go (op_go ⟨x, rfl, draw_go (K := K) (j := j) (m := (ds.length : Int)) rfl sw (ed_len (evd_var rfl hx.no) .l) (by omega) (by omega) fun r H2 r0 r1 kp s2 => ?_⟩)
  obtain ⟨a, xs, rfl, ha, nb, hd⟩ := (hx.ke kp).toLm
  obtain ⟨v, d, hv, hd', hm, hvd⟩ := hd.memAt (i := r.toNat) (by omega)
  exact ⟨a, xs, r, v, rfl, rfl, SqL.of ha, atI_of (j := r.toNat) (by omega) hv, k d hm v H2 kp s2 hvd⟩
/-- a value not yet used -/
def spValue (K : PySem.W.Frag) (z : Sp3) : Sp := fun vs H Q _ => ∃ x us j, vs = [.ref z.S, x] ∧ Dt K z.bar H x (.list ((us : List Int).map PyData.int)) ∧ us.length < 12 ∧ SW z H (j + 1) ∧ ∀ n H', 0 ≤ n → n < 12 → n ∉ us → Kp z.bar H H' → SW z H' j → Q (.int n) H'
theorem free_some (us : List Int) (h : us.length < 12) : ∃ i : Nat, i < 12 ∧ (i : Int) ∉ us := by
  apply Classical.byContradiction
  intro hn
  have hall : ∀ i : Nat, i < 12 → (i : Int) ∈ us := fun i hi => Classical.byContradiction fun hc => hn ⟨i, hi, hc⟩
  have h1 := nat_nodup_len (List.range 12) (us.map Int.toNat) List.nodup_range fun x hx => List.mem_map.mpr ⟨(x : Int), hall x (List.mem_range.mp hx), Int.toNat_natCast x⟩
  rw [List.length_range, List.length_map] at h1
  omega
theorem rgD_filter {n : Nat} (f : Int → Bool) : (rgD 0 n).filter (fun d => f (toI d)) = (((List.range n).map fun (i : Nat) => (i : Int)).filter f).map PyData.int := by
  unfold rgD
  rw [List.filter_map, List.filter_map, List.map_map]
  have e : ((fun d => f (toI d)) ∘ fun (i : Nat) => PyData.int (0 + (i : Int))) = f ∘ fun (i : Nat) => (i : Int) := by
    funext i
    show f (0 + (i : Int)) = f (i : Int)
    rw [Int.zero_add]
  rw [e]
  congr 1
  funext i
  show PyData.int (0 + (i : Int)) = PyData.int (i : Int)
  rw [Int.zero_add]
theorem c__law_value (T : Tx A0 K w mg) (z : Sp3) : C8.Cal P w K mg base 3 "_law_value" (spValue K z) [] := by
  have c__law_draw := c__law_draw (P := P) (base := base) T z
  refine cal_of T.d__law_value sc__law_value (fun vs H Q E h => by obtain ⟨x, ds, j, rfl, _⟩ := h; rfl) (fun f cdv A outer s H vs Q E hr h => ?_)
  obtain ⟨x, us, j, rfl, hx, hz, sw, k⟩ := h
  refine ⟨_, (pss_cons (ps_setLc (i := 2) (own := [("_law_one", 3)]) (by rfl) sc__law_value.nd rfl rfl (sw_true rfl rfl rfl (by decide +kernel)) (pi_range1 (by rfl) T.range (pa_cons pe_int pa_nil)) (blkOk_by (N := N__law_value) (sc := (C8.fnScope s__law_value)) (by decide +kernel)) (fun _ _ _ _ _ => (pg_name (i := 3) sc__law_value.nd rfl (by first | exact Or.inl rfl | exact Or.inr rfl))) (fun _ _ _ _ _ => (pts_one (pt_cmpR (show OpR _ _ (rIn K true) from op_notIn_seq) (pv 3) (pv 1) (by rfl)))) (fun _ _ _ _ _ => (pv 3)))
        (pss_one (ps_ret (pe_ix ix_list (pv 2) (C8.pe_c c__law_draw hr (by decide) (by rfl) (pa_cons (pv 0) (pa_cons (pe_callB call_len_seq (by rfl) T.len (by decide +kernel) (pa_cons (pv 2) pa_nil)) pa_nil))) (fun _ _ => rfl))))), ?_⟩
  try simp only [cxK, cxK2, List.map_cons, List.map_nil]
  have r := evn_lcR1 (K := K) (n := 12) (σ := start N__law_value [.ref z.S, x]) (H := H) (gt := gName 3) (vs := [3]) (ta := tCons (tC (.int 12)) tNil) (t := tTest (tOp (rIn K true) (tVar 3) (tVar 1))) (te := tVar 3) (fun d => !decide (toI d ∈ us)) (fun d => d) (ead_cons ed_int ead_nil) (by decide) fun i hi H1 e1 =>
    tk_name (td_test (ed_niI (evd_var (d := .int (i : Int)) rfl (.int _)) (evd_var rfl (hx.no.ex e1)) .l)) (fun _ => evd_var rfl (.int _)) fun _ => rfl
  refine asg_go (r.go fun p xs H1 hp e1 h1 hxs => ?_)
  have e0 : fm (fun d => !decide (toI d ∈ us)) (fun d => d) (rgD 0 12) = (((List.range 12).map fun (i : Nat) => (i : Int)).filter fun i => !decide (i ∈ us)).map PyData.int := by
    unfold fm
    rw [List.map_id', rgD_filter (fun i => !decide (i ∈ us))]
  rw [e0] at hxs
  obtain ⟨fs, ef⟩ : ∃ fs, ((List.range 12).map fun (i : Nat) => (i : Int)).filter (fun i => !decide (i ∈ us)) = fs := ⟨_, rfl⟩
  rw [ef] at hxs
  have hfs : ∀ n ∈ fs, 0 ≤ n ∧ n < 12 ∧ n ∉ us := fun n hn => by
    rw [← ef, List.mem_filter] at hn
    obtain ⟨i, hi, rfl⟩ := List.mem_map.mp hn.1
    have := List.mem_range.mp hi
    refine ⟨by omega, by omega, fun hc => ?_⟩
    have h2 := hn.2
    rw [decide_eq_true hc] at h2
    cases h2
  have hlen : 0 < fs.length := by
    obtain ⟨i, hi, hn⟩ := free_some us hz
    refine List.length_pos_iff.mpr fun hc => ?_
    have : (i : Int) ∈ fs := by
      rw [← ef, List.mem_filter]
      exact ⟨List.mem_map.mpr ⟨i, List.mem_range.mpr hi, rfl⟩, by simp [hn]⟩
    rw [hc] at this
    cases this
  have hle : fs.length ≤ 12 := by
    rw [← ef]
    have := List.length_filter_le (fun i : Int => !decide (i ∈ us)) ((List.range 12).map fun (i : Nat) => (i : Int))
    rw [List.length_map, List.length_range] at this
    exact this
  have nb : ¬ z.bar p := fun hb => by
    obtain ⟨cs, ls, at_, hS, hC, hL, _⟩ := sw.ex
    rcases hb with hb | hb
    · rw [hb, hS] at hp
      cases hp
    · rw [hb, hL] at hp
      cases hp
  have hpl : Dt K z.bar H1 (.ref p) (.list (fs.map PyData.int)) := .lst h1 nb (DtAll.any hxs (noLs_ints fs))
  refine ret_go (op_go ⟨_, rfl, draw_go (K := K) (j := j) (m := (fs.length : Int)) rfl (sw.mono e1) (evd_is (ed_len (evd_var rfl hpl.no) .l) (by rw [List.length_map])) (by omega) (by omega) fun r H2 r0 r1 kp s2 => ?_⟩)
  obtain ⟨a, ys, ea, ha, nb, hd⟩ := (hpl.ke kp).toLm
  cases ea
  obtain ⟨v, d, hv, hd', hm, hvd⟩ := hd.memAt (i := r.toNat) (by rw [List.length_map]; omega)
  obtain ⟨n, hn, rfl⟩ := List.mem_map.mp hm
  have hb := hfs n hn
  rw [hvd.toInt] at hv
  exact ⟨p, ys, r, _, rfl, rfl, SqL.of ha, atI_of (j := r.toNat) (by omega) hv, k n H2 hb.1 hb.2.1 hb.2.2 ((Kp.of e1).trans kp) s2⟩
end
end SB
end

section
set_option Elab.async false
set_option linter.all false
set_option maxRecDepth 100000
set_option maxHeartbeats 2000000
set_option autoImplicit false
/-! SbR: rules that the law needs beyond the layer's own: min, sorted of a tuple. -/
namespace SB
open PySem PySem.Spec PyProof.Rows
section
open Srt SrtO
variable {prog : Program} {w : World} {A : Around} {E : Value → Shared → Prop} {s : Shared}
/-- the items of a tuple, collected -/
theorem collect_tup {l : Addr} {vs : List Value} {Q : List Value → Shared → Prop} (hl : s.heap.IsTuple l vs.toArray) (hz : vs.length ≤ sizeLine)
    (h : Q vs { s with heap := (s.heap.push (seqObj "list" #[] 0)).update s.heap.objs.size (Obj.mapSeq (· ++ vs.toArray)) }) : wpAny (model prog w) A (collect (.ref l)) Q E s := by
  obtain ⟨o, ho, hc, n, hd⟩ := id hl
  unfold collect
  refine wpAny_bind (wpAny_runValue (codeAny_builtin entry_proto_collect' ?_))
  show wpAny _ _ (do again (.builtin "list.__iadd__" ⟨[← newList [], .ref l], []⟩)) _ _ s
  refine wpAny_bind (wpAny_newList (wpAny_pure ⟨Code.quiet_builtin _ (by decide +kernel), codeAny_builtin entry_list_iadd' ?_⟩))
  show wpAny _ _ (Builtin.List.listExtendWith (.ref s.heap.objs.size) (.ref l) (.ref s.heap.objs.size)) _ _ { s with heap := s.heap.push (seqObj "list" #[] 0) }
  unfold Builtin.List.listExtendWith
  have old : (s.heap.push (seqObj "list" #[] 0)).get? l = some o := Heap.get?_push_of_some _ ho
  have new : (s.heap.push (seqObj "list" #[] 0)).get? s.heap.objs.size = some (seqObj "list" #[] 0) := Heap.get?_push_size _ rfl
  refine wpAny_bind (wpAny_typeOf (T := "tuple") ⟨o, old, hc⟩ ?_)
  rw [if_pos (by
    have e : (Value.type "tuple" == Value.type "tuple") = true := by rfl
    rw [e]
    simp)]
  refine wpAny_bind (listItems_at old hd ?_)
  refine wpAny_bind (listItems_at new rfl ?_)
  rw [if_neg (by simp)]
  refine wpAny_bind (listUpdate_at new rfl ?_ (Nat.zero_le _) (by
    show (#[] ++ vs.toArray).size ≤ sizeLine + 1
    rw [Array.size_append, List.size_toArray]
    exact Nat.le_trans (Nat.le_of_eq (Nat.zero_add _)) (Nat.le_succ_of_le hz)))
  refine wpAny_pure ?_
  refine wpAny_bind (wpAny_load (get?_update_seq new _) ?_)
  show wpAny _ _ (pure ((#[] : Array Value) ++ vs.toArray).toList) Q E _
  rw [show ((#[] : Array Value) ++ vs.toArray).toList = vs by simp]
  exact wpAny_pure h
/-- sorted(t), t a tuple -/
theorem sorted_tup {l : Addr} {vs : List Value} {lt : Value → Value → Bool} {Q : Value → Shared → Prop} (O : Swo lt) (hl : s.heap.IsTuple l vs.toArray) (hz : vs.length ≤ sizeLine)
    (hS : 2 ≤ vs.length → ∀ (h1 : Heap) (a : Addr), SortableO prog w A.in1.in1 { s with heap := h1 } a vs lt)
    (h : ∀ out : List Value, Srtd lt out → Stb lt out vs → Q (.ref (s.heap.objs.size + 1)) { s with heap := sortedAll s.heap vs out.toArray }) : wpAny (model prog w) A (call (.builtin "sorted") [.ref l]) Q E s := by
  refine Calls.call_function_entry kind_sorted plain_sorted entry_sorted (args_sorted1 _) ?_
  unfold Builtin.«sorted»
  refine wpAny_bind (m := checkCount "sorted" 1 1 _) (wpAny_pure (wpAny_bind (collect_tup hl hz (wpAny_bind (wpAny_newList ?_ hz)))))
  obtain ⟨h2, e2⟩ : ∃ h2, (s.heap.push (seqObj "list" #[] 0)).update s.heap.objs.size (Obj.mapSeq (· ++ vs.toArray)) = h2 := ⟨_, rfl⟩
  have size2 : h2.objs.size = s.heap.objs.size + 1 := by
    rw [← e2, Heap.size_update, size_push']
  have at2 : (h2.push (seqObj "list" vs.toArray 0)).get? (s.heap.objs.size + 1) = some (seqObj "list" vs.toArray 0) := by
    rw [← size2]
    exact Heap.get?_push_size _ rfl
  have h' : ∀ out : List Value, Srtd lt out → Stb lt out vs → Q (.ref (s.heap.objs.size + 1)) { s with heap := sortedHeap (h2.push (seqObj "list" vs.toArray 0)) (s.heap.objs.size + 1) vs out.toArray } := by
    rw [← e2]
    exact h
  rw [e2]
  show wpAny _ _ _ _ _ { s with heap := h2.push (seqObj "list" vs.toArray 0) }
  rw [size2]
  refine wpAny_bind (wpAny_holding (wpAny_call_entry slot_list_sort ⟨_, at2, rfl⟩ entry_list_sort (list_sort_ord O at2 hz (fun n => hS n _ _) fun out hs hb => ⟨_, rfl, ?_⟩) (args_list_sort _)))
  exact wpAny_pure ⟨_, rfl, h' out hs hb⟩
end
open L2 Evl
section
variable {X : Cx}
/-- sorted(t), t a tuple of ints -/
def rSortedTI (K : PySem.W.Frag) : List V → Hp → VK → Prop := fun vs H Q => ∃ (a : Addr) (ns : List Int), vs = [V.ref a] ∧ SqT K H a (ns.map V.int) ∧
  ∀ (ns' : List Int) (p : Addr), ns'.Perm ns → ns'.Pairwise (· ≤ ·) → H p = none → Q (.ref p) (upd H p (.lst (ns'.map V.int)))
theorem cr_sortedTI : CallR X (.builtin "sorted") (rSortedTI X.K) := by
  intro pins s σ H vs us Q I r h
  obtain ⟨a, ns, rfl, hs, q⟩ := h
  obtain ⟨its, rv, hl, hz⟩ := I.tuple hs
  rw [Vals.ref1 r]
  have hi := rv.ints
  refine sorted_tup SrtO.swo_int hl (by rw [← rv.length]; exact hz) (fun h2 h₁ a' => SrtO.ints_sortable hi h2) fun out h1 h2 => ?_
  obtain ⟨k1, k2, k3⟩ := SrtO.ints_out hi h1 h2
  obtain ⟨ep, he'⟩ := PyProof.Rows.sortedAll_at s.heap its out.toArray
  have hlen : ((out.map SrtO.iv).map V.int).length ≤ sizeLine := by
    rw [List.length_map, k2.length_eq]
    rw [List.length_map] at hz
    exact hz
  exact ⟨.ref _, upd H (s.heap.objs.size + 1) (.lst ((out.map SrtO.iv).map V.int)), I.laid (t' := s.toks) (fun _ _ => PyProof.Rows.sortedAll_old) (Nat.le_succ _) ⟨hlen, out, ep, vals_of_ints k1, he'⟩, rfl, q _ _ k2 k3 (I.hok.fresh (Nat.le_succ _))⟩
/-- min(t), t a tuple of ints -/
def rMinT (K : PySem.W.Frag) : List V → Hp → VK → Prop := fun vs H Q => ∃ (a : Addr) (ns : List Int), vs = [V.ref a] ∧ SqT K H a (ns.map V.int) ∧ ns ≠ [] ∧ ∀ m ∈ ns, Q (.int m) H
theorem cr_minT (hc : X.calm = true) (hu : X.A.units + 65 < cLine) : CallR X (.builtin "min") (rMinT X.K) := by
  intro pins s σ H vs us Q I r h
  obtain ⟨a, ns, rfl, hs, hne, q⟩ := h
  obtain ⟨its, rv, hl, hz⟩ := I.tuple hs
  rw [Vals.ref1 r]
  have hi := rv.ints
  obtain ⟨n, ms, rfl⟩ : ∃ n ms, ns = n :: ms := by
    cases ns with
    | nil => exact absurd rfl hne
    | cons n ms => exact ⟨n, ms, rfl⟩
  have hr : ReadsAll s.heap its.toArray.toList (.int n :: ms.map PyData.int) [] := PySem.W.readsAll_of_ints (ns := n :: ms) hi
  have hd : PyData.depthAll (.int n :: ms.map PyData.int) ≤ 1 := PySem.W.depthAll_ints (n :: ms)
  have al : PySem.W.AlikeAll (.int n :: ms.map PyData.int) := PySem.W.alikeAll_datum (α := Int) (n :: ms)
  refine PySem.W.min_tuple_data (I.ok.hd hc) hl hr al (by omega) fun i v h' tk bs hv _ keep => ?_
  have hv' : its[i]? = some v := by simpa using hv
  obtain ⟨j, t, rfl⟩ := SrtO.ints_mem hi v (List.mem_of_getElem? hv')
  have hm : j ∈ n :: ms := by
    have e := SrtO.iv_ints hi
    rw [← e]
    exact List.mem_map.mpr ⟨_, List.mem_of_getElem? hv', rfl⟩
  exact ⟨.int j, H, I.kept (h' := h') (t' := tk) keep, ⟨t, rfl⟩, q j hm⟩
end
end SB
end

section
set_option Elab.async false
set_option linter.all false
set_option maxRecDepth 100000
set_option maxHeartbeats 2000000
set_option autoImplicit false
/-! SbEnum: enumerate(t), t[::-1] of a tuple. -/
namespace PySem
open PySem.Spec PyProof.Rows
theorem sb_meets_enum (l : Addr) (items : Array Value) :
    Meets (Builtin.«enumerate.__new__» ⟨[.type "enumerate", .ref l], []⟩) (fun _ R s => s.heap.IsTuple l items ∧
      R (.ok (.ret (.ref (s.heap.push { cls := .type "tuple_iterator", data := .fields #[.ref l, .int 0 0] }).objs.size)))
        { s with heap := (s.heap.push { cls := .type "tuple_iterator", data := .fields #[.ref l, .int 0 0] }).push { cls := .type "enumerate", data := .fields #[.none, .bool false, .ref s.heap.objs.size, rawInt 0, .none, .none] } }) :=
  .of_wp fun prog w A R s h => by
    obtain ⟨hp, g, d, tk, os⟩ := s
    obtain ⟨hL, h⟩ := h
    have hL : Heap.IsTuple (Shared.heap ⟨hp, g, d, tk, os⟩) l items := hL
    obtain ⟨o, hl, hc, n, hd⟩ := id hL
    have hsub := sub_enumerate
    wp_walk using AutoSeq1.wpAny_loadPart' hl, wpAny_pyIter_tuple hL
    refine wpAny_stack_any fun st => wpAny_pure ?_
    split
    · rename_i c _ _ _ _ _
      cases (c == Value.type "enumerate")
      · wp_walk using AutoSeq1.wpAny_loadPart' hl, wpAny_pyIter_tuple hL
        exact ⟨_, rfl, h⟩
      · wp_walk using AutoSeq1.wpAny_loadPart' hl, wpAny_pyIter_tuple hL
        exact ⟨_, rfl, h⟩
    · wp_walk using AutoSeq1.wpAny_loadPart' hl, wpAny_pyIter_tuple hL
      exact ⟨_, rfl, h⟩
theorem sb_call_enum {prog : Program} {w : World} {A : Around} {E : Value → Shared → Prop} {s : Shared} {l : Addr} {items : Array Value} {Q : Value → Shared → Prop} (hL : s.heap.IsTuple l items)
    (h : ∀ h', IsEnum h' (s.heap.objs.size + 1) s.heap.objs.size 0 .none → h'.IsTupleIter s.heap.objs.size l 0 → h'.IsTuple l items →
      (∀ b o, s.heap.get? b = some o → h'.get? b = some o) → Q (.ref (s.heap.objs.size + 1)) { s with heap := h' }) : wpAny (model prog w) A (call (.type "enumerate") [.ref l]) Q E s := by
  obtain ⟨o, hl, hc, n, hd⟩ := id hL
  refine callType_new F.called_enumerate (by decide) (F.typeCall_enumerate_1 _) (F.newCall_enumerate_1 _) (fun obj => F.args_object_init_2 obj _) F.entry_enumerate_new (sb_meets_enum l items) ⟨hL, ?_⟩
  have size : (s.heap.push { cls := .type "tuple_iterator", data := .fields #[.ref l, .int 0 0] }).objs.size = s.heap.objs.size + 1 := Heap.size_push ..
  show _ ∧ _
  rw [size]
  have he : IsEnum ((s.heap.push { cls := .type "tuple_iterator", data := .fields #[.ref l, .int 0 0] }).push { cls := .type "enumerate", data := .fields #[.none, .bool false, .ref s.heap.objs.size, rawInt 0, .none, .none] }) (s.heap.objs.size + 1) s.heap.objs.size 0 .none := by
    have at_ := Heap.get?_push_size (s.heap.push { cls := .type "tuple_iterator", data := .fields #[.ref l, .int 0 0] }) (o := { cls := .type "enumerate", data := .fields #[.none, .bool false, .ref s.heap.objs.size, rawInt 0, .none, .none] }) rfl
    rw [size] at at_
    exact at_
  exact ⟨⟨_, he, rfl⟩, h _ he ⟨_, Heap.get?_push_of_some _ (Heap.get?_push_size _ rfl), rfl, rfl⟩ (hL.at fun o x => Heap.get?_push_of_some _ (Heap.get?_push_of_some _ x)) fun b o x => Heap.get?_push_of_some _ (Heap.get?_push_of_some _ x)⟩
end PySem
namespace SB
open PySem PySem.Spec PyProof.Rows L2 Evl
/-- the tuple at a, each item in a new pair -/
def ItE (K : PySem.W.Frag) (a : Addr) : It :=
  ⟨fun i H => ∃ (xs : List V) (x : V), SqT K H a xs ∧ xs[i]? = some x, fun i H v H' => ∃ T x, v = .ref T ∧ H T = none ∧ H' = upd H T (.tup [.int (i : Nat), x]) ∧ ∀ xs, SqT K H a xs → xs[i]? = some x, fun i H => ∃ xs : List V, SqT K H a xs ∧ xs.length = i⟩
theorem turn_enumT {P : Program} {w : World} {K : PySem.W.Frag} {elts : List Expr} {kk : Nat} {tpos : Pos} (a e it : Addr) (nai : a ≠ it) (nae : a ≠ e) :
    Turn P w K (.Tuple elts kk tpos) (ItE K a) [e, it] e (fun i h => (∃ old, IsEnum h e it ((i : Nat) : Int) old) ∧ h.IsTupleIter it a i ∧ e ≠ it) where
  mem := by simp
  obj := fun i h st b hb => by
    obtain ⟨⟨old, he⟩, ⟨o, ho, hc, hd⟩, _⟩ := st
    have e' : b = e ∨ b = it := by simpa using hb
    rcases e' with z | z
    · rw [z]
      exact ⟨_, he, fun v q => nomatch q⟩
    · rw [z]
      exact ⟨o, ho, fun v q => by rw [hd] at q; cases q⟩
  keep := fun i h h' st k => let ⟨⟨old, he⟩, hi, hne⟩ := st; ⟨⟨old, k e (by simp) _ he⟩, hi.at fun o q => k it (by simp) o q, hne⟩
  item := by
    intro X hP hw hK hc i pins s σ H E I hf st hg
    subst hP hw hK
    obtain ⟨⟨old, he⟩, hit, hne⟩ := st
    obtain ⟨xs, x, hq, hx⟩ := hg
    obtain ⟨its, rv, p, hz⟩ := I.tuple hq
    obtain ⟨u, hu, ru⟩ := rv.get hx
    have hel : e < s.heap.objs.size := Heap.lt_size he
    have hil : it < s.heap.objs.size := by
      obtain ⟨_, q, _⟩ := hit
      exact Heap.lt_size q
    have hlt : i < its.toArray.size := by
      have := (List.getElem?_eq_some_iff.mp hu).1
      simpa using this
    refine wpAny_pyNext_enum_itemD (Draws.tuple (A := X.A.in1) (I.ok.hd hc) it a nai its.toArray) he ⟨hit, p⟩ hlt hne (by simp [hne, Ne.symm nae]) fun v h' tk hv ho st' hT hsz hk => ?_
    have ev : v = u := by
      have h1 : its[i]? = some v := by simpa using hv
      rw [hu] at h1
      exact (Option.some.inj h1).symm
    subst ev
    refine ⟨_, rfl, wpAny_letOwnedTupleGo_enum (s := { s with heap := h', toks := tk + 1 }) ho fun h'' he' sb => ?_⟩
    have hT2 : h''.get? s.heap.objs.size = some { cls := .type "tuple", data := .seq #[.int i tk, v] } := (sb.2 _ (Nat.ne_of_gt hel)).trans hT
    have new : ObjOk X.prog X.w (upd H s.heap.objs.size (.tup [.int (i : Nat), x])) h'' s.heap.objs.size (.tup [.int (i : Nat), x]) :=
      ⟨by show 2 ≤ sizeLine; decide, [.int i tk, v], .cons ⟨_, rfl⟩ (.cons ru .nil), ⟨_, hT2, rfl, _, rfl⟩⟩
    have I1 : Inv X pins σ (upd H s.heap.objs.size (.tup [.int (i : Nat), x])) { s with heap := h'', toks := tk + 1 } :=
      I.turnedNew (ch := [e, it]) (fun b ob hb q => (sb.2 b (fun z => hb (by simp [z]))).trans (hk b ob (fun z => hb (by simp [z])) (fun z => hb (by simp [z])) q)) hf (Nat.le_refl _) new
    refine ⟨.ref s.heap.objs.size, _, I1, rfl, ⟨_, x, rfl, I.hok.fresh (Nat.le_refl _), rfl, fun ys hy => ?_⟩, ⟨⟨v, ?_⟩, st'.1.at fun o q => (sb.2 it (Ne.symm hne)).trans q, hne⟩, fun b hb => ?_⟩
    · rw [I.tuple_inj hy hq]
      exact hx
    · have e1 : ((i + 1 : Nat) : Int) = (i : Int) + 1 := by omega
      rw [e1]
      exact he'
    · have hb' : b < s.heap.objs.size := by
        have e' : b = e ∨ b = it := by simpa using hb
        rcases e' with z | z
        · rw [z]
          exact hel
        · rw [z]
          exact hil
      rw [upd_ne (Nat.ne_of_lt hb')]
      exact (hf b hb).1
  done := by
    intro X hP hw hK hc i pins s σ H E I hf st hg
    subst hP hw hK
    obtain ⟨⟨old, he⟩, hit, hne⟩ := st
    obtain ⟨xs, hq, hx⟩ := hg
    obtain ⟨its, rv, p, hz⟩ := I.tuple hq
    obtain ⟨f0, f1, f2, f3, f4, f5⟩ := hf it (by simp)
    have hl := rv.length
    have ei : i = its.toArray.size := by
      rw [List.size_toArray, ← hl, hx]
    subst ei
    exact wpAny_pyNext_enum_endD (Draws.tuple (A := X.A.in1) (I.ok.hd hc) it a nai its.toArray) he ⟨hit, p⟩ fun h' eb => ⟨rfl, I.turned (t' := s.toks) (fun b o hb q => eb b o hb q) f0 f1 f3 f4 f5⟩
  self := fun A i s Q E st h => let ⟨⟨_, he⟩, _⟩ := st; wpAny_pyIter_enum he h
end SB
end

section
set_option Elab.async false
set_option linter.all false
set_option maxRecDepth 100000
set_option maxHeartbeats 2000000
set_option autoImplicit false
/-! SbR2: enumerate, [::-1], != [] as rules of the layer. -/
namespace SB
open PySem PySem.Spec PyProof.Rows L2 Evl
section
variable {X : Cx}
def iEnumT (K : PySem.W.Frag) (ta : TA) : TI := fun σ H R => ta σ H fun vs H1 => ∃ a xs, vs = [.ref a] ∧ SqT K H1 a xs ∧ R (ItE K a) H1
theorem pi_enumT {e : Expr} {ta : TA} {p pos tpos : Pos} {elts : List Expr} {kk : Nat} (hg : Gl X "enumerate") (hm : X.mg "enumerate" = none) (ha : PA X [e] ta) (hs : starEach [e] X.env = [(false, eval e X.env)] := by rfl) :
    PI X (.Tuple elts kk tpos) (.Call (.Name "enumerate" p) [e] [] pos) (iEnumT X.K ta) := by
  refine ⟨fun pins s σ H R I h => ?_⟩
  refine Call_ (ld_blt I hg hm boot_enumerate (PyProof.Rows.callWith_type1 (thn (ha.run pos pins s σ H _ I h) fun us s1 ⟨vs, H1, I1, r1, q1⟩ => ?_) hs rfl))
  obtain ⟨a, xs, ex, hq, q⟩ := q1
  subst ex
  cases r1 with
  | cons r rr =>
    cases rr
    cases r
    obtain ⟨its, rv, p', hz⟩ := I1.tuple hq
    have hlt : a < s1.heap.objs.size := by
      obtain ⟨_, ho, _⟩ := id p'
      exact Heap.lt_size ho
    refine PySem.sb_call_enum p' fun h' he hit ht hk => wpAny_pyIter_enum he ?_
    have I2 : Inv X pins σ H1 { s1 with heap := h' } := I1.kept (t' := s1.toks) hk
    refine ⟨s1.heap.objs.size + 1, [s1.heap.objs.size + 1, s1.heap.objs.size], _, _, H1, rfl, I2, turn_enumT a (s1.heap.objs.size + 1) s1.heap.objs.size (Nat.ne_of_lt hlt) (Nat.ne_of_lt (Nat.lt_succ_of_lt hlt)), ⟨⟨.none, he⟩, hit, Nat.succ_ne_self _⟩, fun b hb => ?_, q⟩
    have e' : b = s1.heap.objs.size + 1 ∨ b = s1.heap.objs.size := by simpa using hb
    have hle : s1.heap.objs.size ≤ b := by
      rcases e' with z | z
      · rw [z]
        exact Nat.le_add_right _ _
      · rw [z]
        exact Nat.le_refl _
    exact I1.fpOk hle (I1.hok.fresh hle)
/-- xs != [] -/
def rNeE (K : PySem.W.Frag) : R2 := fun x y H Q => ∃ a b xs, x = .ref a ∧ y = .ref b ∧ SqL K H a xs ∧ SqL K H b [] ∧ Q (.bl (!xs.isEmpty)) H
theorem op_neE (hu : X.A.units + 65 < cLine) : OpR X (compareOp .NotEq) (rNeE X.K) := by
  intro pins s σ H x y v u Q I rx ry h
  obtain ⟨a, b, xs, rfl, rfl, ha, hb, q⟩ := h
  obtain rfl : v = Value.ref a := rx
  obtain rfl : u = Value.ref b := ry
  obtain ⟨its, rv, pl, _⟩ := I.list ha
  obtain ⟨its2, rv2, pl2, _⟩ := I.list hb
  cases rv2
  have hu0 : X.A.units < cLine := by omega
  cases rv with
  | nil => exact SeqAt.RcNeAt.lists (e := fun _ => true) pl.isList pl2.isList rfl hu0 (fun j h1 _ => absurd h1 (by simp)) _ _ _ _ ⟨.bl false, H, I, rfl, q⟩
  | cons r rr => exact SeqAt.RcNeAt.lists_lengths pl.isList pl2.isList (by simp) hu0 _ _ _ _ ⟨.bl true, H, I, rfl, q⟩
/-- t[::-1] -/
def tRevT (K : PySem.W.Frag) (te : TE) : TE := fun σ H Q => te σ H fun x H1 => ∃ a xs, x = .ref a ∧ SqT K H1 a xs ∧ ∀ p, H1 p = none → Q (.ref p) (upd H1 p (.tup xs.reverse))
end
section
variable {K : PySem.W.Frag} {σ : L2.St} {H H' H0 H1 : Hp} {tl te ta tb : TE} {t : TT} {d e : PyData}
theorem WalkD.enumT {a : Addr} {xs : List V} {ds : List PyData} (h : SqT K H1 a xs) (hd : DtAll K No H1 xs ds) : WalkD K (ItE K a) H1 (enumD ds) := by
  have e := hd.len
  refine ⟨fun i H hi x => ⟨xs, xs[i]'(by rw [e, ← enumD_len]; exact hi), ex_t x h, by simp⟩, fun H x => ⟨xs, ex_t x h, by rw [enumD_len, ← e]⟩, fun i d H x H' hi z y => ?_⟩
  obtain ⟨T, v, rfl, hT, rfl, hv⟩ := y
  obtain ⟨d, hdi, rfl⟩ := enumD_at hi
  obtain ⟨v', hv', hy⟩ := hd.at hdi
  rw [hv xs (ex_t z h)] at hv'
  obtain rfl := Option.some.inj hv'
  exact pair_data hT (.int _) (hy.ex z)
theorem ed_neE {ds : List PyData} (ha : EvD K ta σ H (.list ds)) (hb : EvD K tb σ H (.list [])) : EvD K (tOp (rNeE K) ta tb) σ H (.bool (!ds.isEmpty)) := evd_op ha hb fun x y H1 _ hx hy Q q => by
  obtain ⟨a, xs, rfl, h1, _, h2⟩ := hx.toLst
  obtain ⟨b, ys, rfl, h3, _, h4⟩ := hy.toLst
  cases h4
  refine ⟨a, b, xs, rfl, rfl, h1, h3, q _ H1 (Ex.refl H1) ?_⟩
  have e : xs.isEmpty = ds.isEmpty := by
    cases h2 <;> rfl
  rw [e]
  exact .bl _
end
end SB
end

section
set_option Elab.async false
set_option linter.all false
set_option maxRecDepth 100000
set_option maxHeartbeats 2000000
set_option autoImplicit false
/-! SbRev: t[::-1] of a tuple. -/
namespace SB
open PySem PySem.Spec PyProof.Rows
section
open HT
variable {prog : Program} {w : World} {A : Around} {E : Value → Shared → Prop} {s : Shared}
theorem adjust_rev (n : Nat) : Builtin.Slice.sliceAdjust none none (-1) (n : Int) = ((n : Int) - 1, -1) := by
  unfold Builtin.Slice.sliceAdjust
  rfl
theorem places_rev (n : Nat) : Builtin.Slice.slicePlaces ((n : Int) - 1) (-1) (-1) = n := by
  unfold Builtin.Slice.slicePlaces
  rw [if_neg (by decide)]
  by_cases h : n = 0
  · subst h
    rfl
  · rw [if_pos (by omega)]
    have e : ((n : Int) - 1 - -1 - 1) / (- -1) + 1 = (n : Int) := by
      rw [show (- -1 : Int) = 1 by decide, Int.ediv_one]
      omega
    rw [e, Int.toNat_natCast]
theorem filterMap_mem {α β : Type} {f g : α → Option β} : ∀ {l : List α}, (∀ x ∈ l, f x = g x) → l.filterMap f = l.filterMap g
  | [], _ => rfl
  | x :: r, h => by
    rw [List.filterMap_cons, List.filterMap_cons, h x List.mem_cons_self, filterMap_mem fun y hy => h y (List.mem_cons_of_mem _ hy)]
theorem pick_rev (xs : Array Value) : ((List.range xs.size).filterMap fun (k : Nat) => xs[(((xs.size : Int) - 1) + (k : Int) * (-1)).toNat]?).toArray = xs.toList.reverse.toArray := by
  congr 1
  have e : (List.range xs.size).filterMap (fun (k : Nat) => xs[(((xs.size : Int) - 1) + (k : Int) * (-1)).toNat]?) = ((List.range xs.size).map fun k => xs.size - 1 - k).filterMap fun k => xs[k]? := by
    rw [List.filterMap_map]
    refine filterMap_mem fun k hk => ?_
    have hk := List.mem_range.mp hk
    show xs[(((xs.size : Int) - 1) + (k : Int) * (-1)).toNat]? = xs[xs.size - 1 - k]?
    congr 1
    omega
  rw [e, PySem.W.krv_range, List.filterMap_reverse, PySem.W.krv_all]
theorem applied_rev {sl : Addr} {n : Nat} {tk : Tok} {Q : Int × Int × Nat → Shared → Prop} (hs : s.heap.IsSliceOf sl .none .none (.int (-1) tk)) (h : Q ((n : Int) - 1, -1, n) s) : wpAny (model prog w) A (Builtin.Slice.sliceApplied (.ref sl) (pure (n : Int))) Q E s := by
  obtain ⟨os, hos, hcs, hds⟩ := id hs
  unfold Builtin.Slice.sliceApplied Builtin.Slice.sliceFields
  refine wpAny_bind (wpAny_bind (wpAny_field hos hds (x := .none) rfl (wpAny_bind (wpAny_field hos hds (x := .none) rfl (wpAny_bind (wpAny_field hos hds (x := .int (-1) tk) rfl (wpAny_pure ?_)))))))
  refine wpAny_bind (slicePart_int ?_)
  show wpAny _ _ (if ((-1 : Int) == 0) = true then _ else _) _ _ s
  rw [if_neg (by decide)]
  refine wpAny_bind (slicePart_none (wpAny_bind (slicePart_none (wpAny_bind (wpAny_pure ?_)))))
  show wpAny _ _ (match Builtin.Slice.sliceAdjust none none (-1) (n : Int) with | (lo, hi) => pure (lo, (-1 : Int), Builtin.Slice.slicePlaces lo hi (-1))) _ _ s
  rw [adjust_rev n]
  show wpAny _ _ (pure ((n : Int) - 1, (-1 : Int), Builtin.Slice.slicePlaces ((n : Int) - 1) (-1) (-1))) _ _ s
  rw [places_rev]
  exact wpAny_pure h
theorem getItem_tuple_rev {t sl : Addr} {items : Array Value} {tk : Tok} {Q : Value → Shared → Prop} (ht : IsTup s.heap t items) (hs : s.heap.IsSliceOf sl .none .none (.int (-1) tk))
    (h : Q (.ref s.heap.objs.size) { s with heap := s.heap.push { cls := .type "tuple", data := .seq items.toList.reverse.toArray } }) (hz : items.size ≤ sizeLine) : wpAny (model prog w) A (getItem (.ref t) (.ref sl)) Q E s := by
  have fits : sizeOk (.seq items.toList.reverse.toArray) := by
    show items.toList.reverse.toArray.size ≤ sizeLine
    rw [List.size_toArray, List.length_reverse, Array.length_toList]
    exact hz
  obtain ⟨os, hos, hcs, hds⟩ := id hs
  have hTs : s.TypeIs (.ref sl) "slice" := ⟨os, hos, hcs⟩
  unfold getItem
  try with_reducible refine wpAny_holding ?_
  first | refine wpAny_bind (wpAny_pure ?_) | skip
  refine wpAny_bind (wpAny_sequenceKey ht.typeIs (by decide) ?_)
  refine wpAny_bind (wpAny_callSpecial?_slot (name := Str.ofString "__getitem__") ht.typeIs PyProof.Rows.slot_tuple_getitem
    (wpAny_call_entry PyProof.Rows.slot_tuple_getitem ht.typeIs entry_tuple_getitem ?_ (args_tuple_getitem _ _)))
  show wpAny _ _ (Builtin.Tuple.tupleItemsOf (.ref t) >>= _) _ _ s
  refine wpAny_bind (tupleItemsOf_ ht ?_)
  refine wpAny_bind (wpAny_typeOf hTs ?_)
  rw [if_pos (by decide)]
  refine wpAny_bind (applied_rev hs ?_)
  have no : ¬ ((((items.size : Int) - 1) == 0 && (-1 : Int) == 1 && items.size == items.size) = true) := by
    rw [show ((-1 : Int) == 1) = false by decide, Bool.and_false, Bool.false_and]
    exact Bool.false_ne_true
  show wpAny _ _ (if (((items.size : Int) - 1) == 0 && (-1 : Int) == 1 && items.size == items.size) = true then _ else _) _ _ s
  rw [if_neg no, pick_rev]
  first
    | exact wpAny_bind (m := Builtin.Tuple.tupleExact _) (wpAny_newObj_type (wpAny_pure ⟨_, rfl, wpAny_pure h⟩) fits)
    | exact wpAny_bind (m := Builtin.Tuple.tupleExact _) (wpAny_newObj_type (wpAny_bind (wpAny_pure (wpAny_pure ⟨_, rfl, wpAny_pure h⟩))) fits)
    | exact wpAny_bind (wpAny_bind (m := Builtin.Tuple.tupleExact _) (wpAny_newObj_type (wpAny_pure (wpAny_pure ⟨_, rfl, wpAny_pure h⟩)) fits))
    | exact wpAny_bind (wpAny_bind (m := Builtin.Tuple.tupleExact _) (wpAny_newObj_type (wpAny_pure ⟨_, rfl, wpAny_pure h⟩) fits))
end
open L2 Evl
section
variable {X : Cx}
theorem pe_revT {e : Expr} {te : TE} {k : Nat} {p1 p2 p3 pos : Pos} (he : PE X e te) : PE X (.Subscript e (.Slice none none (some (.UnaryOp .USub (.Constant (.int 1) k p1) p2)) p3) pos) (tRevT X.K te) := by
  refine ⟨fun pins s σ H Q I h => ?_⟩
  refine Subscript_ (thn (he.run pins s σ H _ I h) fun v s1 ⟨x, H1, I1, r1, q1⟩ => ?_)
  obtain ⟨a, xs, ex, hx, q⟩ := q1
  subst ex
  cases r1
  have step : PO X (some (.UnaryOp .USub (.Constant (.int 1) k p1) p2)) (tPart (tUn (rU fun i => .int (-i)) (tC (.int 1)))) := po_some (pe_un un_neg pe_int)
  refine wpAny_Slice (thn (po_none.run pins s1 σ H1 (fun o H2 => o = none ∧ H2 = H1) I1 ⟨rfl, rfl⟩) fun vl s2 ⟨l, H2, I2, pl, el, e2⟩ => ?_)
  subst el e2
  refine thn (po_none.run pins s2 σ H2 (fun o H3 => o = none ∧ H3 = H2) I2 ⟨rfl, rfl⟩) fun vu s3 ⟨u, H3, I3, pu, eu, e3⟩ => ?_
  subst eu e3
  refine thn (step.run pins s3 σ H3 (fun o H4 => o = some (-1) ∧ H4 = H3) I3 ⟨1, rfl, -1, rfl, rfl, rfl⟩) fun vs s4 ⟨o, H4, I4, ps, eo, e4⟩ => ?_
  subst eo e4
  cases pl
  cases pu
  obtain ⟨tk, etk⟩ : ∃ tk, vs = .int (-1) tk := by
    cases ps
    exact ⟨_, rfl⟩
  subst etk
  have I5 : Inv X pins σ H4 { s4 with heap := s4.heap.push { cls := .type "slice", data := .fields #[.none, .none, .int (-1) tk] } } := I4.kept (t' := s4.toks) fun b ob q => Heap.get?_push_of_some _ q
  obtain ⟨its, r, ht, hz⟩ := I5.tuple hx
  have len := r.length
  show wpAny (model X.prog X.w) X.A (subscriptTail e (.Slice none none (some (.UnaryOp .USub (.Constant (.int 1) k p1) p2)) p3) (.ref a) (.ref s4.heap.objs.size)) (EP X pins σ Q) X.xe { s4 with heap := s4.heap.push { cls := .type "slice", data := .fields #[.none, .none, .int (-1) tk] } }
  refine tail_any (ops := [.ref a, .ref s4.heap.objs.size]) ht.typeIs (PyProof.Rows.slot_tuple_getitem.lookup) ?_ (by with_unfolding_all rfl)
  refine getItem_tuple_rev ht (Heap.IsSliceOf.new _ .none .none (.int (-1) tk)) ?_ (by rw [List.size_toArray]; omega)
  refine ⟨.ref _, _, I5.laid (t' := s4.toks) (o := .tup xs.reverse) (fun b ob q => Heap.get?_push_of_some _ q) (Nat.le_refl _) ?_, rfl, q _ (I5.hok.fresh (Nat.le_refl _))⟩
  exact ⟨by rw [List.length_reverse]; exact hz, _, r.reverse, IsTup.new _ _⟩
end
section
variable {K : PySem.W.Frag} {σ : L2.St} {H : Hp} {te : TE}
theorem ed_rev {ds : List PyData} (h : EvD K te σ H (.tuple ds)) : EvD K (tRevT K te) σ H (.tuple ds.reverse) := fun H1 e Q q => h H1 e _ fun x H2 c hx => by
  obtain ⟨a, xs, rfl, hs, hd⟩ := hx.toTup
  exact ⟨a, xs, rfl, hs, fun p hp => q _ _ (c.trans (Ex.new hp)) (.tup (SqT.of upd_same) (hd.rev.ex (Ex.new hp)))⟩
end
end SB
end

section
set_option Elab.async false
set_option linter.all false
set_option maxRecDepth 100000
set_option maxHeartbeats 2000000
set_option autoImplicit false
/-! SbL3: what a word does to a store. -/
namespace SB
open PySem PySem.Spec PyProof.Rows L2 Evl
abbrev s__law_taken : Stmt := topS 48
abbrev N__law_taken : List Str := ["_law_sort", "_law_store_here"]
theorem sc__law_taken : FnScope N__law_taken ["_law_sort", "_law_store_here"] (C8.fnScope s__law_taken) := C8.fnScope_by (by decide +kernel)
abbrev s__law_do : Stmt := topS 49
abbrev N__law_do : List Str := ["_law_sort", "_law_store_here", "_law_word_here", "_law_given", "_law_went_so", "_law_one", "_law_has_room"]
theorem sc__law_do : FnScope N__law_do ["_law_sort", "_law_store_here", "_law_word_here", "_law_given"] (C8.fnScope s__law_do) := C8.fnScope_by (by decide +kernel)
local macro_rules | `(tactic| walk_at "sd") => `(tactic| first | with_reducible rfl | assumption | exact SeqD.t | exact SeqD.l | rfl | omega)
local macro_rules | `(tactic| walk_at "dt") => `(tactic| first | assumption | exact Dt.int _ | exact Dt.bl _ | exact Dt.str _ | exact Dt.non | exact Dt.ex (by assumption) (by assumption))
local macro_rules | `(tactic| walk_at "ev") => `(tactic| first
  | assumption
  | with_reducible apply ed_int
  | with_reducible apply ed_str
  | with_reducible apply ed_bl
  | with_reducible apply ed_non
  | with_reducible apply ead_nil
  | with_reducible exact et_yes
  | with_reducible exact eo_none
  | exact evd_var rfl (by walk_at "dt")
  | ((with_reducible apply td_test); walk_at "ev")
  | ((with_reducible apply td_B); walk_at "ev")
  | ((with_reducible apply et_not); walk_at "ev")
  | ((with_reducible apply et_and); walk_at "ev"; intro _; walk_at "ev")
  | ((with_reducible apply et_or); walk_at "ev"; intro _; walk_at "ev")
  | ((with_reducible apply ead_cons); walk_at "ev"; walk_at "ev")
  | ((with_reducible apply eod_some); walk_at "ev")
  | ((with_reducible apply evd_tup); walk_at "ev"; first | decide | (focus (simp; done)) | omega)
  | ((with_reducible apply evd_lst); walk_at "ev"; first | decide | (focus (simp; done)) | omega)
  | ((with_reducible apply ed_not); walk_at "ev")
  | ((with_reducible apply ed_and); walk_at "ev"; intro _; walk_at "ev")
  | ((with_reducible apply ed_or); walk_at "ev"; intro _; walk_at "ev")
  | ((with_reducible apply ed_i0); walk_at "ev"; walk_at "ev")
  | ((with_reducible apply ed_b0); walk_at "ev"; walk_at "ev")
  | ((with_reducible apply ed_eqI); walk_at "ev"; walk_at "ev")
  | ((with_reducible apply ed_eqS); walk_at "ev"; walk_at "ev")
  | ((with_reducible apply ed_eqB); walk_at "ev"; walk_at "ev")
  | ((with_reducible apply ed_neI); walk_at "ev"; walk_at "ev")
  | ((with_reducible apply ed_neS); walk_at "ev"; walk_at "ev")
  | ((with_reducible apply ed_neB); walk_at "ev"; walk_at "ev")
  | ((with_reducible apply ed_isN); walk_at "ev"; walk_at "ev")
  | ((with_reducible apply ed_notN); walk_at "ev"; walk_at "ev")
  | ((with_reducible apply ed_chain); walk_at "ev"; walk_at "ev"; walk_at "ev")
  | ((with_reducible apply ed_ixT); walk_at "ev"; walk_at "ev"; walk_at "sd")
  | ((with_reducible apply ed_ixL); walk_at "ev"; walk_at "ev"; walk_at "sd")
  | ((with_reducible apply ed_isi); walk_at "ev"; (first | exact kit_int _ | exact kit_bool _ | exact kit_tuple _ | exact kit_str _))
  | ((with_reducible apply ed_len); walk_at "ev"; walk_at "sd")
  | ((with_reducible apply ed_call); walk_at "ev"; (first | assumption | exact ⟨_, rfl, rfl⟩ | exact ⟨_, _, rfl, rfl⟩ | exact ⟨_, _, _, rfl, rfl⟩); exact rfl)
  | ((with_reducible apply ed_max2); walk_at "ev"; walk_at "ev")
  | ((with_reducible apply ed_min2); walk_at "ev"; walk_at "ev")
  | ((with_reducible apply ed_list); walk_at "ev"; walk_at "sd")
  | ((with_reducible apply ed_tuple); walk_at "ev"; walk_at "sd")
  | ((with_reducible apply ed_neg); walk_at "ev"))

/-- te gives some data of P -/
def EvX (K : PySem.W.Frag) (te : TE) (σ : L2.St) (H : Hp) (P : PyData → Prop) : Prop := EvP te σ H fun v H2 => ∃ d, P d ∧ Dt K No H2 v d
section
variable {K : PySem.W.Frag} {σ : L2.St} {H H' : Hp} {ta tb tc te tl : TE} {t : TT} {d e : PyData} {P : PyData → Prop}
theorem EvX.go {Q : VK} (h : EvX K te σ H P) (k : ∀ v H2 d, Ex H H2 → P d → Dt K No H2 v d → Q v H2) : te σ H Q := h H (Ex.refl H) Q fun v H2 e ⟨d, p, hd⟩ => k v H2 d e p hd
theorem EvX.mono (a : Ex H H') (h : EvX K te σ H P) : EvX K te σ H' P := fun H1 b Q q => h H1 (a.trans b) Q q
theorem evx_of (h : EvD K te σ H d) (p : P d) : EvX K te σ H P := fun H1 a Q q => h H1 a Q fun v H2 b hd => q v H2 b ⟨d, p, hd⟩
theorem EvX.imp {P' : PyData → Prop} (h : EvX K te σ H P) (p : ∀ d, P d → P' d) : EvX K te σ H P' := fun H1 a Q q => h H1 a Q fun v H2 b ⟨d, hp, hd⟩ => q v H2 b ⟨d, p d hp, hd⟩
theorem evx_if {b : Bool} (h : EvT t σ H b) (h1 : b = true → EvX K ta σ H P) (h2 : b = false → EvX K tb σ H P) : EvX K (tIf t ta tb) σ H P := fun H1 a Q q => h H1 a _ fun H2 c => by
  cases b with
  | true =>
    show ta σ H2 Q
    exact h1 rfl H2 (a.trans c) Q fun v H3 g => q v H3 (c.trans g)
  | false =>
    show tb σ H2 Q
    exact h2 rfl H2 (a.trans c) Q fun v H3 g => q v H3 (c.trans g)
theorem evx_3 {d1 d2 : PyData} (h1 : EvD K ta σ H d1) (h2 : EvD K tb σ H d2) (h3 : EvX K tc σ H P) : EvX K (tTup (tCons ta (tCons tb (tCons tc tNil)))) σ H fun d => ∃ d3, P d3 ∧ d = .tuple [d1, d2, d3] := fun H1 a Q q =>
  h1 H1 a _ fun v1 H2 b hv1 => h2 H2 (a.trans b) _ fun v2 H3 c hv2 => h3 H3 ((a.trans b).trans c) _ fun v3 H4 g ⟨d3, p3, hv3⟩ => ⟨by show 3 ≤ sizeLine; decide, fun p hp => q _ _ (((b.trans c).trans g).trans (Ex.new hp)) ⟨_, ⟨d3, p3, rfl⟩, .tup (SqT.of upd_same) (.cons (hv1.ex ((c.trans g).trans (Ex.new hp))) (.cons (hv2.ex (g.trans (Ex.new hp))) (.cons (hv3.ex (Ex.new hp)) .nil)))⟩⟩
/-- tuple(sorted(t)), ints -/
theorem evx_sorted {ns : List Int} (h : EvD K te σ H (.tuple (ns.map PyData.int))) : EvX K (tCB (fun xs H Q => ∃ p ys, xs = [.ref p] ∧ ((SqL K H p ys ∧ ∀ l, H l = none → Q (.ref l) (upd H l (.tup ys))) ∨ (SqT K H p ys ∧ Q (.ref p) H))) (tCons (tCB (rSortedTI K) (tCons te tNil)) tNil)) σ H fun d => ∃ ms : List Int, ms.Perm ns ∧ d = .tuple (ms.map PyData.int) := fun H1 a Q q =>
  h H1 a _ fun v H2 b hv => by
    obtain ⟨p, xs, rfl, hs, hd⟩ := hv.toTup
    obtain rfl := hd.toInts
    refine ⟨p, ns, rfl, hs, fun ms p2 pm _ hp2 => ⟨p2, _, rfl, .inl ⟨SqL.of upd_same, fun l hl => q _ _ ((b.trans (Ex.new hp2)).trans (Ex.new hl)) ⟨_, ⟨ms, pm, rfl⟩, .tup (SqT.of upd_same) (DtAll.ints ms)⟩⟩⟩⟩
end
/-- a tuple of ints -/
abbrev tupI (ns : List Int) : PyData := .tuple (ns.map PyData.int)
theorem shaped_tupI (ns : List Int) : SeqAt.shaped (tupI ns) = true := by
  have h := PySem.W.shaped_ints ns
  unfold SeqAt.shaped at h ⊢
  simp only [PyData.canLay0, PyData.depth] at h ⊢
  exact h
theorem eqv_nil (ns : List Int) : PyData.eqv (tupI ns) (.tuple []) = ns.isEmpty := by
  cases ns with
  | nil => simp [tupI, PyData.eqv, PyData.eqvAll]
  | cons n r => simp [tupI, PyData.eqv, PyData.eqvAll]
/-- what a store may be -/
def StT : Srt → PyData → Prop
  | .cell, st => st = .none ∨ ∃ i, st = .int i
  | .counter, st => ∃ i, st = .int i
  | .tickets, st => ∃ i, st = .int i
  | _, st => ∃ ns, st = tupI ns
section
variable {P : Program} {w : World} {K : PySem.W.Frag} {mg : Str → Option Value} {base : Heap} {A0 : Ad}
theorem ed_eqSrt {σ : L2.St} {H : Hp} {ta tb : TE} {s : Srt} {x : Str} (ha : EvD K ta σ H s.data) (hb : EvD K tb σ H (.str x)) (hx : PyData.strOk x = true) (hn : ∀ n, s = .room n → s.name ≠ x) : EvD K (tOp (rEqD K) ta tb) σ H (.bool (decide (s.name = x))) := evd_is (ed_eqD ha hb (shaped_srt s) (shaped_str hx)) (by rw [eqv_srt s x hn])
def spTaken (K : PySem.W.Frag) : Sp := fun vs H Q _ => ∃ a b s ns, vs = [a, b] ∧ Dt K No H a (Srt.data s) ∧ Dt K No H b (tupI ns) ∧ ns ≠ [] ∧ ∀ m H', m ∈ ns → Ex H H' → Q (.int m) H'
theorem c__law_taken (T : Tx A0 K w mg) : C8.Cal P w K mg base 1 "_law_taken" (spTaken K) [] := by
  refine cal_of T.d__law_taken sc__law_taken (fun vs H Q E h => by obtain ⟨a, b, s, ns, rfl, _⟩ := h; rfl) (fun f cdv A outer s H vs Q E hr h => ?_)
  obtain ⟨a, b, s, ns, rfl, ha, hb, hne, k⟩ := h
  refine ⟨_, (pss_cons (ps_if (pt_cmpR (op_eqD hr.units) (pv 0) pe_str (nomark _)) (pss_one (ps_ret (pe_ix ix_tup (pv 1) pe_int (fun _ _ => rfl)))) pss_nil)
        (pss_one (ps_ret (pe_ifExp (pt_cmpR (op_eqD hr.units) (pv 0) pe_str (nomark _)) (pe_ix ix_tup (pv 1) (pe_un un_neg pe_int) (fun _ _ => rfl)) (pe_callB (cr_minT rfl (hu65 hr)) (by rfl) T.min (by decide +kernel) (pa_cons (pv 1) pa_nil)))))), ?_⟩
  try simp only [cxK, cxK2, List.map_cons, List.map_nil]
  obtain ⟨n, ms, rfl⟩ : ∃ n ms, ns = n :: ms := by
    cases ns with
    | nil => exact absurd rfl hne
    | cons n ms => exact ⟨n, ms, rfl⟩
  have last : atI ((n :: ms).map PyData.int) (-1) = some (.int ((n :: ms).getLast (List.cons_ne_nil _ _))) := by
    unfold atI
    have e : ixN ((n :: ms).map PyData.int).length (-1) = some ms.length := by
      rw [List.length_map]
      unfold ixN
      simp
      omega
    rw [e]
    show ((n :: ms).map PyData.int)[ms.length]? = _
    rw [List.getElem?_map, List.getLast_eq_getElem]
    simp
  refine q_when (b := decide (s.name = "queue")) (td_test (ed_eqSrt (evd_var rfl ha) ed_str (by decide +kernel) fun n e => by subst e; exact (show ("room" : Str) ≠ "queue" by decide))) (fun _ H1 e1 => ?_) fun _ H1 e1 => ?_
  · exact sd_ret (ed_ixT (i := 0) (d := .int n) (evd_var rfl (hb.ex e1)) ed_int (atI_of (j := 0) rfl rfl)) fun v H2 e2 hv => by
      rw [hv.toInt]
      exact k n H2 List.mem_cons_self (e1.trans e2)
  · refine EvX.go (P := fun d => ∃ m ∈ n :: ms, d = .int m) (evx_if (b := decide (s.name = "stack")) (td_test (ed_eqSrt (evd_var rfl (ha.ex e1)) ed_str (by decide +kernel) fun n e => by subst e; exact (show ("room" : Str) ≠ "stack" by decide))) (fun _ => evx_of (ed_ixT (evd_var rfl (hb.ex e1)) (ed_neg ed_int) last) ⟨_, List.getLast_mem _, rfl⟩) fun _ => ?_) fun v H2 d e2 ⟨m, hm, ed⟩ hv => ?_
    · intro H2 e2 Q2 q2
      refine ⟨b, rfl, ?_⟩
      obtain ⟨p, xs, rfl, hs, hd⟩ := (hb.ex (e1.trans e2)).toTup
      obtain rfl := hd.toInts
      exact ⟨p, n :: ms, rfl, hs, List.cons_ne_nil _ _, fun m hm => q2 _ H2 (Ex.refl _) ⟨_, ⟨m, hm, rfl⟩, .int m⟩⟩
    · subst ed
      rw [hv.toInt]
      exact k m H2 hm (e1.trans e2)
/-- what a word is given, by the store -/
inductive DoPre : Srt → Str → PyData → PyData → Prop
  | write (s : Srt) (st : PyData) (i : Int) : DoPre s "write" st (.int i)
  | put (s : Srt) (ns : List Int) (i : Int) : DoPre s "put" (tupI ns) (.int i)
  | read (s : Srt) (st : PyData) : DoPre s "read" st .none
  | count (s : Srt) (st : PyData) : DoPre s "count" st .none
  | add (s : Srt) (n : Int) : DoPre s "add" (.int n) .none
  | draw (s : Srt) (n : Int) : DoPre s "draw" (.int n) .none
  | take (s : Srt) (ns : List Int) : DoPre s "take" (tupI ns) .none
  | has (s : Srt) (ns : List Int) (i : Int) : DoPre s "has" (tupI ns) (.int i)
  | enter (m : Int) (ns : List Int) (i : Int) : DoPre (.room m) "enter" (tupI ns) (.int i)
  | join (s : Srt) (ns : List Int) (i : Int) : DoPre s "join" (tupI ns) (.int i)
  | leave (s : Srt) (ns : List Int) (i : Int) : DoPre s "leave" (tupI ns) (.int i)
  | drop (s : Srt) (ns : List Int) (i : Int) : DoPre s "drop" (tupI ns) (.int i)
/-- what is told, and the store behind -/
inductive DoR : Str → PyData → PyData → PyData → PyData → Prop
  | write (st : PyData) (i : Int) : DoR "write" st (.int i) .none (.int i)
  | put {ns ms : List Int} {i : Int} : ms.Perm (ns ++ [i]) → DoR "put" (tupI ns) (.int i) .none (tupI ms)
  | read (st : PyData) : DoR "read" st .none st st
  | count (st : PyData) : DoR "count" st .none st st
  | add (n : Int) : DoR "add" (.int n) .none .none (.int (n + 1))
  | draw (n : Int) : DoR "draw" (.int n) .none (.int n) (.int (n + 1))
  | none : DoR "take" (tupI []) .none .none (tupI [])
  | take {ns : List Int} {m : Int} : m ∈ ns → DoR "take" (tupI ns) .none (.int m) (tupI (ns.filter fun i => !decide (i = m)))
  | has (ns : List Int) (i : Int) : DoR "has" (tupI ns) (.int i) (.int (if decide (i ∈ ns) = true then 1 else 0)) (tupI ns)
  | enter {ns ms : List Int} {i : Int} : ms.Perm (ns ++ [i]) → DoR "enter" (tupI ns) (.int i) .none (tupI ms)
  | join {ns ms : List Int} {i : Int} : ms.Perm (ns ++ [i]) → DoR "join" (tupI ns) (.int i) .none (tupI ms)
  | leave (ns : List Int) (i : Int) : DoR "leave" (tupI ns) (.int i) .none (tupI (ns.filter fun j => !decide (j = i)))
  | drop (ns : List Int) (i : Int) : DoR "drop" (tupI ns) (.int i) .none (tupI (ns.filter fun j => !decide (j = i)))
theorem fil_ints (f : Int → Bool) (ns : List Int) : (ns.map PyData.int).filter (fun d => f (toI d)) = (ns.filter f).map PyData.int := by
  rw [List.filter_map]
  rfl
theorem q_skip {b : Bool} {t : TT} {tu tz : TS} {D : Ends} {σ : L2.St} {H : Hp} (h : EvT t σ H b) (e : b = false) (k : ∀ H1, Ex H H1 → tz D σ H1) : tSeq (tIfS t tu tNext) tz D σ H := q_when (b := false) (et_is h e) (fun z => nomatch z) fun _ => k
theorem q_hit {b : Bool} {t : TT} {tu tz : TS} {D : Ends} {σ : L2.St} {H : Hp} (h : EvT t σ H b) (e : b = true) (k : ∀ H1, Ex H H1 → tu { D with nx := tz D } σ H1) : tSeq (tIfS t tu tNext) tz D σ H := q_when (b := true) (et_is h e) (fun _ => k) fun z => nomatch z
theorem sx_ret {te : TE} {σ : L2.St} {H : Hp} {D : Ends} {P : PyData → Prop} (h : EvX K te σ H P) (k : ∀ v H1 d, Ex H H1 → P d → Dt K No H1 v d → D.rt v H1) : tRet te D σ H := h.go k
def spDo (K : PySem.W.Frag) : Sp := fun vs H Q _ => ∃ a b c d s wo st g, vs = [a, b, c, d] ∧ Dt K No H a (Srt.data s) ∧ Dt K No H b st ∧ Dt K No H c (.str wo) ∧ Dt K No H d g ∧ DoPre s wo st g ∧ (∀ ns, st = tupI ns → ns.length ≤ 20000) ∧ ∀ v H' can t st', Ex H H' → DoR wo st g t st' → Dt K No H' v (.tuple [.bool can, t, st']) → Q v H'
theorem c__law_do (T : Tx A0 K w mg) : C8.Cal P w K mg base 2 "_law_do" (spDo K) [] := by
  have c__law_taken := c__law_taken (P := P) (base := base) T
  refine cal_of T.d__law_do sc__law_do (fun vs H Q E h => by obtain ⟨a, b, c, d, s, wo, st, g, rfl, _⟩ := h; rfl) (fun f cdv A outer s H vs Q E hr h => ?_)
  obtain ⟨a, b, c, d, s, wo, st, g, rfl, ha, hb, hc, hd, pre, pz, k⟩ := h
  refine ⟨_, (pss_cons (ps_if (pt_cmpR op_eq (pv 2) pe_str (nomark _)) (pss_one (ps_ret (pe_tup (pa_cons pe_bl (pa_cons pe_non (pa_cons (pv 3) pa_nil)))))) pss_nil)
        (pss_cons (ps_if (pt_cmpR op_eq (pv 2) pe_str (nomark _)) (pss_one (ps_ret (pe_tup (pa_cons pe_bl (pa_cons pe_non (pa_cons (pe_ifExp (pt_cmpR (op_eqD hr.units) (pv 0) pe_str (nomark _)) (pe_callTy call_tuple_of (by rfl) T.tuple (by decide +kernel) (pa_cons (pe_callB cr_sortedTI (by rfl) T.sorted (by decide +kernel) (pa_cons (pe_op op_catA (pv 1) (pe_tup (pa_cons (pv 3) pa_nil))) pa_nil)) pa_nil)) (pe_op op_catA (pv 1) (pe_tup (pa_cons (pv 3) pa_nil)))) pa_nil)))))) pss_nil)
        (pss_cons (ps_if (pt_cmpR op_in_seq (pv 2) (pe_tup (pa_cons pe_str (pa_cons pe_str pa_nil))) (by rfl)) (pss_one (ps_ret (pe_tup (pa_cons pe_bl (pa_cons (pv 1) (pa_cons (pv 1) pa_nil)))))) pss_nil)
        (pss_cons (ps_if (pt_cmpR op_in_seq (pv 2) (pe_tup (pa_cons pe_str (pa_cons pe_str pa_nil))) (by rfl)) (pss_one (ps_ret (pe_tup (pa_cons pe_bl (pa_cons (pe_ifExp (pt_cmpR op_eq (pv 2) pe_str (nomark _)) pe_non (pv 1)) (pa_cons (pe_op op_add (pv 1) pe_int) pa_nil)))))) pss_nil)
        (pss_cons (ps_if (PW.pt (pw_and (pt_cmpR op_eq (pv 2) pe_str (nomark _)) (pw_and1 (pt_cmpR (op_eqD hr.units) (pv 1) (pe_tup pa_nil) (nomark _))))) (pss_one (ps_ret (pe_tup (pa_cons pe_bl (pa_cons pe_non (pa_cons (pv 1) pa_nil)))))) pss_nil)
        (pss_cons (ps_if (pt_cmpR op_eq (pv 2) pe_str (nomark _)) (pss_cons (ps_set (i := 4) sc__law_do.nd rfl (by first | exact Or.inl rfl | exact Or.inr rfl) (C8.pe_c c__law_taken hr (by decide) (by rfl) (pa_cons (pv 0) (pa_cons (pv 1) pa_nil))))
          (pss_one (ps_ret (pe_tup (pa_cons pe_bl (pa_cons (pv 4) (pa_cons (pe_callTy call_tuple_of (by rfl) T.tuple (by decide +kernel) (pa_cons (pe_lc (own := [("_law_one", 5)]) (by rfl) sc__law_do.nd (pi_tup (pv 1)) (blkOk_by (N := N__law_do) (sc := (C8.fnScope s__law_do)) (by decide +kernel)) (fun _ _ _ _ _ => (pg_name (i := 5) sc__law_do.nd rfl (by first | exact Or.inl rfl | exact Or.inr rfl))) (fun _ _ _ _ _ => (pts_one (pt_cmpR op_ne (pv 5) (pv 4) (nomark _)))) (fun _ _ _ _ _ => (pv 5))) pa_nil)) pa_nil))))))) pss_nil)
        (pss_cons (ps_if (pt_cmpR op_eq (pv 2) pe_str (nomark _)) (pss_one (ps_ret (pe_tup (pa_cons pe_bl (pa_cons (pe_callTy call_int1 (by rfl) T.int (by decide +kernel) (pa_cons (pe_cmpR op_in_seq (pv 3) (pv 1) (by rfl)) pa_nil)) (pa_cons (pv 1) pa_nil)))))) pss_nil)
        (pss_cons (ps_if (pt_cmpR op_in_seq (pv 2) (pe_tup (pa_cons pe_str (pa_cons pe_str pa_nil))) (by rfl)) (pss_cons (ps_set (i := 6) sc__law_do.nd rfl (by first | exact Or.inl rfl | exact Or.inr rfl) (pe_or (pe_cmpR op_eq (pv 2) pe_str (nomark _)) (pe_one (pe_cmpR op_lt (pe_callB call_len_seq (by rfl) T.len (by decide +kernel) (pa_cons (pv 1) pa_nil)) (pe_ix ix_tup (pv 0) pe_int (fun _ _ => rfl)) (nomark _)))))
          (pss_one (ps_ret (pe_tup (pa_cons (pe_and (pe_cmpR op_notIn_seq (pv 3) (pv 1) (by rfl)) (pe_one (pv 6))) (pa_cons pe_non (pa_cons (pe_callTy call_tuple_of (by rfl) T.tuple (by decide +kernel) (pa_cons (pe_callB cr_sortedTI (by rfl) T.sorted (by decide +kernel) (pa_cons (pe_op op_catA (pv 1) (pe_tup (pa_cons (pv 3) pa_nil))) pa_nil)) pa_nil)) pa_nil))))))) pss_nil)
        (pss_one (ps_ret (pe_tup (pa_cons (pe_cmpR op_in_seq (pv 3) (pv 1) (by rfl)) (pa_cons pe_non (pa_cons (pe_callTy call_tuple_of (by rfl) T.tuple (by decide +kernel) (pa_cons (pe_lc (own := [("_law_one", 5)]) (by rfl) sc__law_do.nd (pi_tup (pv 1)) (blkOk_by (N := N__law_do) (sc := (C8.fnScope s__law_do)) (by decide +kernel)) (fun _ _ _ _ _ => (pg_name (i := 5) sc__law_do.nd rfl (by first | exact Or.inl rfl | exact Or.inr rfl))) (fun _ _ _ _ _ => (pts_one (pt_cmpR op_ne (pv 5) (pv 3) (nomark _)))) (fun _ _ _ _ _ => (pv 5))) pa_nil)) pa_nil)))))))))))))), ?_⟩
  try simp only [cxK, cxK2, List.map_cons, List.map_nil]
  obtain rfl := hc.toStr
  have eqW : ∀ y H1, EvT (tTest (tOp rEq (tVar 2) (tC (.str y)))) (start N__law_do [a, b, .str wo, d]) H1 (decide (wo = y)) := fun y H1 => td_test (K := K) (ed_eqS (evd_var rfl (.str _)) ed_str)
  have inW : ∀ y z H1, EvT (tTest (tOp (rIn K false) (tVar 2) (tTup (tCons (tC (.str y)) (tCons (tC (.str z)) tNil))))) (start N__law_do [a, b, .str wo, d]) H1 (decide (wo ∈ [y, z])) := fun y z H1 => td_test (K := K) (ed_inS (ns := [y, z]) (evd_var rfl (.str _)) (evd_tup (ead_cons ed_str (ead_cons ed_str ead_nil)) (by show 2 ≤ 100000; decide)))
  have catD : ∀ ns i H1, Ex H H1 → Dt K No H b (tupI ns) → Dt K No H d (.int i) → ns.length ≤ 20000 → EvD K (tOp (rCatA K) (tVar 1) (tTup (tCons (tVar 3) tNil))) (start N__law_do [a, b, .str wo, d]) H1 (tupI (ns ++ [i])) := fun ns i H1 e hb hd hz => evd_is (evd_cat (evd_var rfl (hb.ex e)) (evd_tup (ead_cons (evd_var rfl (hd.ex e)) ead_nil) (by show 1 ≤ 100000; decide)) (by rw [List.length_map]; show _ + 1 ≤ _; omega)) (by rw [tupI, List.map_append]; rfl)
  cases pre with
  | write _ _ i =>
    refine q_hit (eqW "write" _) (by rfl) fun H1 e1 => ?_
    exact sd_ret (evd_tup (ead_cons ed_bl (ead_cons ed_non (ead_cons (evd_var rfl (hd.ex e1)) ead_nil))) (by show 3 ≤ 100000; decide)) fun v H9 e9 hv => k v H9 true _ _ (e1.trans e9) (.write _ _) hv
  | put _ ns i =>
    refine q_skip (eqW "write" _) (by rfl) fun H1 e1 => ?_
    refine q_hit (eqW "put" _) (by rfl) fun H2 e2 => ?_
    refine sx_ret (evx_3 (d1 := .bool true) (d2 := .none) (P := fun d => ∃ ms : List Int, ms.Perm (ns ++ [i]) ∧ d = .tuple (ms.map PyData.int)) ed_bl ed_non (evx_if (b := decide (s.name = "heads")) (td_test (ed_eqSrt (evd_var rfl (ha.ex (e1.trans e2))) ed_str (by decide +kernel) fun n e => by subst e; exact (show ("room" : Str) ≠ "heads" by decide))) (fun _ => evx_sorted (catD ns i _ (e1.trans e2) hb hd (pz ns rfl))) fun _ => evx_of (catD ns i _ (e1.trans e2) hb hd (pz ns rfl)) ⟨_, List.Perm.refl _, rfl⟩)) fun v H9 d e9 hp hv => ?_
    obtain ⟨d3, ⟨ms, pm, rfl⟩, rfl⟩ := hp
    exact k v H9 true _ _ ((e1.trans e2).trans e9) (.put pm) hv
  | read  =>
    refine q_skip (eqW "write" _) (by rfl) fun H1 e1 => ?_
    refine q_skip (eqW "put" _) (by rfl) fun H2 e2 => ?_
    refine q_hit (inW "read" "count" _) (by rfl) fun H3 e3 => ?_
    exact sd_ret (evd_tup (ead_cons ed_bl (ead_cons (evd_var rfl (hb.ex ((e1.trans e2).trans e3))) (ead_cons (evd_var rfl (hb.ex ((e1.trans e2).trans e3))) ead_nil))) (by show 3 ≤ 100000; decide)) fun v H9 e9 hv => k v H9 true _ _ (((e1.trans e2).trans e3).trans e9) (.read _) hv
  | count  =>
    refine q_skip (eqW "write" _) (by rfl) fun H1 e1 => ?_
    refine q_skip (eqW "put" _) (by rfl) fun H2 e2 => ?_
    refine q_hit (inW "read" "count" _) (by rfl) fun H3 e3 => ?_
    exact sd_ret (evd_tup (ead_cons ed_bl (ead_cons (evd_var rfl (hb.ex ((e1.trans e2).trans e3))) (ead_cons (evd_var rfl (hb.ex ((e1.trans e2).trans e3))) ead_nil))) (by show 3 ≤ 100000; decide)) fun v H9 e9 hv => k v H9 true _ _ (((e1.trans e2).trans e3).trans e9) (.count _) hv
  | add _ n =>
    refine q_skip (eqW "write" _) (by rfl) fun H1 e1 => ?_
    refine q_skip (eqW "put" _) (by rfl) fun H2 e2 => ?_
    refine q_skip (inW "read" "count" _) (by rfl) fun H3 e3 => ?_
    refine q_hit (inW "add" "draw" _) (by rfl) fun H4 e4 => ?_
    exact sd_ret (evd_tup (ead_cons ed_bl (ead_cons (evd_if (d := .none) (b := true) (et_is (eqW "add" _) (by rfl)) (fun _ => ed_non) (fun z => nomatch z)) (ead_cons (ed_i0 (g := fun i j => i + j) (evd_var rfl (hb.ex (((e1.trans e2).trans e3).trans e4))) ed_int) ead_nil))) (by show 3 ≤ 100000; decide)) fun v H9 e9 hv => k v H9 true _ _ ((((e1.trans e2).trans e3).trans e4).trans e9) (.add n) hv
  | draw _ n =>
    refine q_skip (eqW "write" _) (by rfl) fun H1 e1 => ?_
    refine q_skip (eqW "put" _) (by rfl) fun H2 e2 => ?_
    refine q_skip (inW "read" "count" _) (by rfl) fun H3 e3 => ?_
    refine q_hit (inW "add" "draw" _) (by rfl) fun H4 e4 => ?_
    exact sd_ret (evd_tup (ead_cons ed_bl (ead_cons (evd_if (d := .int n) (b := false) (et_is (eqW "add" _) (by rfl)) (fun z => nomatch z) (fun _ => evd_var rfl (hb.ex (((e1.trans e2).trans e3).trans e4)))) (ead_cons (ed_i0 (g := fun i j => i + j) (evd_var rfl (hb.ex (((e1.trans e2).trans e3).trans e4))) ed_int) ead_nil))) (by show 3 ≤ 100000; decide)) fun v H9 e9 hv => k v H9 true _ _ ((((e1.trans e2).trans e3).trans e4).trans e9) (.draw n) hv
  | take _ ns =>
    refine q_skip (eqW "write" _) (by rfl) fun H1 e1 => ?_
    refine q_skip (eqW "put" _) (by rfl) fun H2 e2 => ?_
    refine q_skip (inW "read" "count" _) (by rfl) fun H3 e3 => ?_
    refine q_skip (inW "add" "draw" _) (by rfl) fun H4 e4 => ?_
    cases ns with
    | nil =>
      refine q_hit (et_and (eqW "take" _) fun _ => td_test (ed_eqD (evd_var rfl (hb.ex (((e1.trans e2).trans e3).trans e4))) (evd_tup ead_nil (by show 0 ≤ 100000; decide)) (shaped_tupI []) (shaped_tupI []))) (by rw [eqv_nil]; rfl) fun H5 e5 => ?_
      exact sd_ret (evd_tup (ead_cons ed_bl (ead_cons ed_non (ead_cons (evd_var rfl (hb.ex ((((e1.trans e2).trans e3).trans e4).trans e5))) ead_nil))) (by show 3 ≤ 100000; decide)) fun v H9 e9 hv => k v H9 true _ _ (((((e1.trans e2).trans e3).trans e4).trans e5).trans e9) .none hv
    | cons n ms =>
      refine q_skip (et_and (eqW "take" _) fun _ => td_test (ed_eqD (evd_var rfl (hb.ex (((e1.trans e2).trans e3).trans e4))) (evd_tup ead_nil (by show 0 ≤ 100000; decide)) (shaped_tupI (n :: ms)) (shaped_tupI []))) (by rw [eqv_nil]; rfl) fun H5 e5 => ?_
      refine q_hit (eqW "take" _) (by rfl) fun H6 e6 => ?_
      have e06 := (((((e1.trans e2).trans e3).trans e4).trans e5).trans e6)
      refine asg_go ⟨a, rfl, b, rfl, a, b, s, n :: ms, rfl, ha.ex e06, hb.ex e06, List.cons_ne_nil _ _, fun m H7 hm e7 => ?_⟩
      have r := lcT_fil (K := K) (σ := (start N__law_do [a, b, .str "take", d]).set 4 (some (.int m))) (j := 5) (H := H7) (tl := tVar 1) (t := tTest (tOp rNe (tVar 5) (tVar 4))) (fun d => !decide (toI d = m)) (evd_var rfl (hb.ex (e06.trans e7))) (by rw [List.length_map]; have := pz (n :: ms) rfl; omega) (show 5 < 7 by decide) fun d hd x H8 e8 hx => by
        obtain ⟨j, hj, rfl⟩ := List.mem_map.mp hd
        exact td_test (ed_neI (evd_var rfl hx) (evd_var (d := .int m) rfl (.int _)))
      exact sd_ret (evd_tup (ead_cons ed_bl (ead_cons (evd_var (d := .int m) rfl (.int _)) (ead_cons (ed_tuple r.d .l) ead_nil))) (by show 3 ≤ 100000; decide)) fun v H9 e9 hv => k v H9 true _ _ ((e06.trans e7).trans e9) (.take hm) (by rw [fil_ints (fun i => !decide (i = m))] at hv; exact hv)
  | has _ ns i =>
    refine q_skip (eqW "write" _) (by rfl) fun H1 e1 => ?_
    refine q_skip (eqW "put" _) (by rfl) fun H2 e2 => ?_
    refine q_skip (inW "read" "count" _) (by rfl) fun H3 e3 => ?_
    refine q_skip (inW "add" "draw" _) (by rfl) fun H4 e4 => ?_
    refine q_skip (et_andF (et_is (eqW "take" _) (by rfl))) rfl fun H5 e5 => ?_
    refine q_skip (eqW "take" _) (by rfl) fun H6 e6 => ?_
    refine q_hit (eqW "has" _) (by rfl) fun H7 e7 => ?_
    exact sd_ret (evd_tup (ead_cons ed_bl (ead_cons (ed_intB (ed_inI (evd_var rfl (hd.ex ((((((e1.trans e2).trans e3).trans e4).trans e5).trans e6).trans e7))) (evd_var rfl (hb.ex ((((((e1.trans e2).trans e3).trans e4).trans e5).trans e6).trans e7))) .t)) (ead_cons (evd_var rfl (hb.ex ((((((e1.trans e2).trans e3).trans e4).trans e5).trans e6).trans e7))) ead_nil))) (by show 3 ≤ 100000; decide)) fun v H9 e9 hv => k v H9 true _ _ (((((((e1.trans e2).trans e3).trans e4).trans e5).trans e6).trans e7).trans e9) (.has ns i) hv
  | enter m ns i =>
    refine q_skip (eqW "write" _) (by rfl) fun H1 e1 => ?_
    refine q_skip (eqW "put" _) (by rfl) fun H2 e2 => ?_
    refine q_skip (inW "read" "count" _) (by rfl) fun H3 e3 => ?_
    refine q_skip (inW "add" "draw" _) (by rfl) fun H4 e4 => ?_
    refine q_skip (et_andF (et_is (eqW "take" _) (by rfl))) rfl fun H5 e5 => ?_
    refine q_skip (eqW "take" _) (by rfl) fun H6 e6 => ?_
    refine q_skip (eqW "has" _) (by rfl) fun H7 e7 => ?_
    refine q_hit (inW "enter" "join" _) (by rfl) fun H8 e8 => ?_
    refine qd_asg (d := .bool (decide ((ns.length : Int) < m))) (evd_is (ed_or (a := false) (evd_is (ed_eqS (evd_var rfl (.str _)) ed_str) (by rfl : PyData.bool (decide (("enter" : Str) = "join")) = .bool false)) fun _ => ed_b0 (g := fun i j => decide (i < j)) (evd_is (ed_len (evd_var rfl (hb.ex (((((((e1.trans e2).trans e3).trans e4).trans e5).trans e6).trans e7).trans e8))) .t) (by rw [List.length_map])) (ed_ixT (i := 1) (d := .int m) (evd_var (d := .tuple [.str "room", .int m]) rfl (ha.ex (((((((e1.trans e2).trans e3).trans e4).trans e5).trans e6).trans e7).trans e8))) ed_int rfl)) (by rw [Bool.false_or])) fun hr H9 e9 hhr => ?_
    have e09 := ((((((((e1.trans e2).trans e3).trans e4).trans e5).trans e6).trans e7).trans e8).trans e9)
    refine sx_ret (evx_3 (d2 := .none) (P := fun d => ∃ ms : List Int, ms.Perm (ns ++ [i]) ∧ d = .tuple (ms.map PyData.int)) (ed_and (ed_niI (evd_var rfl (hd.ex e09)) (evd_var rfl (hb.ex e09)) .t) fun _ => evd_var rfl hhr) ed_non (evx_sorted (evd_is (evd_cat (evd_var rfl (hb.ex e09)) (evd_tup (ead_cons (evd_var rfl (hd.ex e09)) ead_nil) (by show 1 ≤ 100000; decide)) (by rw [List.length_map]; have := pz ns rfl; show _ + 1 ≤ _; omega)) (by rw [List.map_append]; rfl)))) fun v H10 d e10 hp hv => ?_
    obtain ⟨d3, ⟨ms, pm, rfl⟩, rfl⟩ := hp
    exact k v H10 _ _ _ (e09.trans e10) (.enter pm) hv
  | join _ ns i =>
    refine q_skip (eqW "write" _) (by rfl) fun H1 e1 => ?_
    refine q_skip (eqW "put" _) (by rfl) fun H2 e2 => ?_
    refine q_skip (inW "read" "count" _) (by rfl) fun H3 e3 => ?_
    refine q_skip (inW "add" "draw" _) (by rfl) fun H4 e4 => ?_
    refine q_skip (et_andF (et_is (eqW "take" _) (by rfl))) rfl fun H5 e5 => ?_
    refine q_skip (eqW "take" _) (by rfl) fun H6 e6 => ?_
    refine q_skip (eqW "has" _) (by rfl) fun H7 e7 => ?_
    refine q_hit (inW "enter" "join" _) (by rfl) fun H8 e8 => ?_
    refine qd_asg (K := K) (d := .bool true) (ed_or (b := true) (evd_is (ed_eqS (evd_var rfl (.str _)) ed_str) (by rfl : PyData.bool (decide (("join" : Str) = "join")) = .bool true)) fun z => nomatch z) fun hr H9 e9 hhr => ?_
    have e09 := ((((((((e1.trans e2).trans e3).trans e4).trans e5).trans e6).trans e7).trans e8).trans e9)
    refine sx_ret (evx_3 (d2 := .none) (P := fun d => ∃ ms : List Int, ms.Perm (ns ++ [i]) ∧ d = .tuple (ms.map PyData.int)) (ed_and (ed_niI (evd_var rfl (hd.ex e09)) (evd_var rfl (hb.ex e09)) .t) fun _ => evd_var rfl hhr) ed_non (evx_sorted (evd_is (evd_cat (evd_var rfl (hb.ex e09)) (evd_tup (ead_cons (evd_var rfl (hd.ex e09)) ead_nil) (by show 1 ≤ 100000; decide)) (by rw [List.length_map]; have := pz ns rfl; show _ + 1 ≤ _; omega)) (by rw [List.map_append]; rfl)))) fun v H10 d e10 hp hv => ?_
    obtain ⟨d3, ⟨ms, pm, rfl⟩, rfl⟩ := hp
    exact k v H10 _ _ _ (e09.trans e10) (.join pm) hv
  | leave _ ns i =>
    refine q_skip (eqW "write" _) (by rfl) fun H1 e1 => ?_
    refine q_skip (eqW "put" _) (by rfl) fun H2 e2 => ?_
    refine q_skip (inW "read" "count" _) (by rfl) fun H3 e3 => ?_
    refine q_skip (inW "add" "draw" _) (by rfl) fun H4 e4 => ?_
    refine q_skip (et_andF (et_is (eqW "take" _) (by rfl))) rfl fun H5 e5 => ?_
    refine q_skip (eqW "take" _) (by rfl) fun H6 e6 => ?_
    refine q_skip (eqW "has" _) (by rfl) fun H7 e7 => ?_
    refine q_skip (inW "enter" "join" _) (by rfl) fun H8 e8 => ?_
    have e08 := (((((((e1.trans e2).trans e3).trans e4).trans e5).trans e6).trans e7).trans e8)
    have r := lcT_fil (K := K) (σ := start N__law_do [a, b, .str "leave", d]) (j := 5) (H := H8) (tl := tVar 1) (t := tTest (tOp rNe (tVar 5) (tVar 3))) (fun d => !decide (toI d = i)) (evd_var rfl (hb.ex e08)) (by rw [List.length_map]; have := pz ns rfl; omega) (show 5 < 7 by decide) fun d' hd' x H9 e9 hx => by
      obtain ⟨j, hj, rfl⟩ := List.mem_map.mp hd'
      exact td_test (ed_neI (evd_var rfl hx) (evd_var rfl (hd.ex (e08.trans e9))))
    exact sd_ret (evd_tup (ead_cons (ed_inI (evd_var rfl (hd.ex e08)) (evd_var rfl (hb.ex e08)) .t) (ead_cons ed_non (ead_cons (ed_tuple r.d .l) ead_nil))) (by show 3 ≤ 100000; decide)) fun v H9 e9 hv => k v H9 _ _ _ (e08.trans e9) (.leave ns i) (by rw [fil_ints (fun j => !decide (j = i))] at hv; exact hv)
  | drop _ ns i =>
    refine q_skip (eqW "write" _) (by rfl) fun H1 e1 => ?_
    refine q_skip (eqW "put" _) (by rfl) fun H2 e2 => ?_
    refine q_skip (inW "read" "count" _) (by rfl) fun H3 e3 => ?_
    refine q_skip (inW "add" "draw" _) (by rfl) fun H4 e4 => ?_
    refine q_skip (et_andF (et_is (eqW "take" _) (by rfl))) rfl fun H5 e5 => ?_
    refine q_skip (eqW "take" _) (by rfl) fun H6 e6 => ?_
    refine q_skip (eqW "has" _) (by rfl) fun H7 e7 => ?_
    refine q_skip (inW "enter" "join" _) (by rfl) fun H8 e8 => ?_
    have e08 := (((((((e1.trans e2).trans e3).trans e4).trans e5).trans e6).trans e7).trans e8)
    have r := lcT_fil (K := K) (σ := start N__law_do [a, b, .str "drop", d]) (j := 5) (H := H8) (tl := tVar 1) (t := tTest (tOp rNe (tVar 5) (tVar 3))) (fun d => !decide (toI d = i)) (evd_var rfl (hb.ex e08)) (by rw [List.length_map]; have := pz ns rfl; omega) (show 5 < 7 by decide) fun d' hd' x H9 e9 hx => by
      obtain ⟨j, hj, rfl⟩ := List.mem_map.mp hd'
      exact td_test (ed_neI (evd_var rfl hx) (evd_var rfl (hd.ex (e08.trans e9))))
    exact sd_ret (evd_tup (ead_cons (ed_inI (evd_var rfl (hd.ex e08)) (evd_var rfl (hb.ex e08)) .t) (ead_cons ed_non (ead_cons (ed_tuple r.d .l) ead_nil))) (by show 3 ≤ 100000; decide)) fun v H9 e9 hv => k v H9 _ _ _ (e08.trans e9) (.drop ns i) (by rw [fil_ints (fun j => !decide (j = i))] at hv; exact hv)
end
end SB
end

section
set_option Elab.async false
set_option linter.all false
set_option maxRecDepth 100000
set_option maxHeartbeats 2000000
set_option autoImplicit false
/-! SbL4: a first store, a word. -/
namespace SB
open PySem PySem.Spec PyProof.Rows L2 Evl
abbrev s__law_word : Stmt := topS 51
abbrev N__law_word : List Str := ["_law_state", "_law_sort", "_law_store_here", "_law_used", "_law_way"]
theorem sc__law_word : FnScope N__law_word ["_law_state", "_law_sort", "_law_store_here", "_law_used"] (C8.fnScope s__law_word) := C8.fnScope_by (by decide +kernel)
local macro_rules | `(tactic| walk_at "sd") => `(tactic| first | with_reducible rfl | assumption | exact SeqD.t | exact SeqD.l | rfl | omega)
local macro_rules | `(tactic| walk_at "dt") => `(tactic| first | assumption | exact Dt.int _ | exact Dt.bl _ | exact Dt.str _ | exact Dt.non | exact Dt.ex (by assumption) (by assumption))
local macro_rules | `(tactic| walk_at "ev") => `(tactic| first
  | assumption
  | with_reducible apply ed_int
  | with_reducible apply ed_str
  | with_reducible apply ed_bl
  | with_reducible apply ed_non
  | with_reducible apply ead_nil
  | with_reducible exact et_yes
  | with_reducible exact eo_none
  | exact evd_var rfl (by walk_at "dt")
  | ((with_reducible apply td_test); walk_at "ev")
  | ((with_reducible apply td_B); walk_at "ev")
  | ((with_reducible apply et_not); walk_at "ev")
  | ((with_reducible apply et_and); walk_at "ev"; intro _; walk_at "ev")
  | ((with_reducible apply et_or); walk_at "ev"; intro _; walk_at "ev")
  | ((with_reducible apply ead_cons); walk_at "ev"; walk_at "ev")
  | ((with_reducible apply eod_some); walk_at "ev")
  | ((with_reducible apply evd_tup); walk_at "ev"; first | decide | (focus (simp; done)) | omega)
  | ((with_reducible apply evd_lst); walk_at "ev"; first | decide | (focus (simp; done)) | omega)
  | ((with_reducible apply ed_not); walk_at "ev")
  | ((with_reducible apply ed_and); walk_at "ev"; intro _; walk_at "ev")
  | ((with_reducible apply ed_or); walk_at "ev"; intro _; walk_at "ev")
  | ((with_reducible apply ed_i0); walk_at "ev"; walk_at "ev")
  | ((with_reducible apply ed_b0); walk_at "ev"; walk_at "ev")
  | ((with_reducible apply ed_eqI); walk_at "ev"; walk_at "ev")
  | ((with_reducible apply ed_eqS); walk_at "ev"; walk_at "ev")
  | ((with_reducible apply ed_eqB); walk_at "ev"; walk_at "ev")
  | ((with_reducible apply ed_neI); walk_at "ev"; walk_at "ev")
  | ((with_reducible apply ed_neS); walk_at "ev"; walk_at "ev")
  | ((with_reducible apply ed_neB); walk_at "ev"; walk_at "ev")
  | ((with_reducible apply ed_isN); walk_at "ev"; walk_at "ev")
  | ((with_reducible apply ed_notN); walk_at "ev"; walk_at "ev")
  | ((with_reducible apply ed_chain); walk_at "ev"; walk_at "ev"; walk_at "ev")
  | ((with_reducible apply ed_ixT); walk_at "ev"; walk_at "ev"; walk_at "sd")
  | ((with_reducible apply ed_ixL); walk_at "ev"; walk_at "ev"; walk_at "sd")
  | ((with_reducible apply ed_isi); walk_at "ev"; (first | exact kit_int _ | exact kit_bool _ | exact kit_tuple _ | exact kit_str _))
  | ((with_reducible apply ed_len); walk_at "ev"; walk_at "sd")
  | ((with_reducible apply ed_call); walk_at "ev"; (first | assumption | exact ⟨_, rfl, rfl⟩ | exact ⟨_, _, rfl, rfl⟩ | exact ⟨_, _, _, rfl, rfl⟩); exact rfl)
  | ((with_reducible apply ed_max2); walk_at "ev"; walk_at "ev")
  | ((with_reducible apply ed_min2); walk_at "ev"; walk_at "ev")
  | ((with_reducible apply ed_list); walk_at "ev"; walk_at "sd")
  | ((with_reducible apply ed_tuple); walk_at "ev"; walk_at "sd")
  | ((with_reducible apply ed_neg); walk_at "ev"))

section
variable {P : Program} {w : World} {K : PySem.W.Frag} {mg : Str → Option Value} {base : Heap} {A0 : Ad}
def store0 : Srt → PyData
  | .cell => .none
  | .counter => .int 0
  | .tickets => .int 0
  | _ => tupI []
theorem shaped_strs2 {x y : Str} (hx : PyData.strOk x = true) (hy : PyData.strOk y = true) : SeqAt.shaped (.tuple [.str x, .str y]) = true := by
  unfold SeqAt.shaped
  simp only [PyData.canLay0, PyData.canLayAll0, PyData.depth, PyData.depthAll]
  rw [hx, hy]
  rfl
theorem shaped_strs3 {x y z : Str} (hx : PyData.strOk x = true) (hy : PyData.strOk y = true) (hz : PyData.strOk z = true) : SeqAt.shaped (.tuple [.str x, .str y, .str z]) = true := by
  unfold SeqAt.shaped
  simp only [PyData.canLay0, PyData.canLayAll0, PyData.depth, PyData.depthAll]
  rw [hx, hy, hz]
  rfl
theorem eqv_srt2 (s : Srt) (x : Str) (h : ∀ n, s = .room n → s.name ≠ x) : PyData.eqv (.str x) s.data = decide (s.name = x) := by
  cases s with
  | room n =>
    have := h n rfl
    rw [decide_eq_false this]
    simp only [Srt.data, PyData.eqv]
  | _ =>
    simp only [Srt.data, PyData.eqv]
    rw [Bool.eq_iff_iff, beq_iff_eq, decide_eq_true_iff]
    exact eq_comm
theorem nr {x : Str} {s : Srt} (h : ("room" : Str) ≠ x) : ∀ n, s = .room n → s.name ≠ x := fun n e => by
  subst e
  exact h
abbrev spStore (K : PySem.W.Frag) : Sp := spP K 1 fun ds d => ∃ s : Srt, ds = [s.data] ∧ d = store0 s
theorem c__law_store (T : Tx A0 K w mg) : C8.Cal P w K mg base 1 "_law_store" (spStore K) [] := by
  refine cal_of T.d__law_store sc__law_store (fun vs H Q E h => h.1) (fun f cdv A outer s H vs Q E hr h => ?_)
  obtain ⟨hl, ds, d, hd, ⟨x, rfl, rfl⟩, k⟩ := h
  refine ⟨_, (pss_cons (ps_if (pt_cmpR (op_eqD hr.units) (pv 0) pe_str (nomark _)) (pss_one (ps_ret pe_non)) pss_nil)
        (pss_one (ps_ret (pe_ifExp (pt_cmpR (op_inTD (hu65 hr)) (pv 0) (pe_tup (pa_cons pe_str (pa_cons pe_str pa_nil))) (by rfl)) pe_int (pe_tup pa_nil))))), ?_⟩
  try simp only [cxK, cxK2, List.map_cons, List.map_nil]
  obtain ⟨v, rfl, hv⟩ := hd.one
  refine q_when (b := decide (x.name = "cell")) (td_test (ed_eqSrt (evd_var rfl hv) ed_str (by decide +kernel) (nr (by decide)))) (fun h H1 e1 => ?_) fun h H1 e1 => ?_
  · refine sd_ret (d := store0 x) (evd_is ed_non ?_) fun v H2 e => k v H2 (e1.trans e)
    cases x <;> first | rfl | exact absurd h (by decide) | exact absurd (show decide (("room" : Str) = "cell") = true from h) (by decide)
  · refine sd_ret (d := store0 x) (evd_if (b := decide (x.name = "counter") || decide (x.name = "tickets")) (et_is (td_test (ed_inTD (evd_var rfl (hv.ex e1)) (evd_tup (ead_cons ed_str (ead_cons ed_str ead_nil)) (by show 2 ≤ 100000; decide)) (shaped_srt x) (shaped_strs2 (by decide +kernel) (by decide +kernel)))) ?_) (fun h2 => evd_is ed_int ?_) fun h2 => evd_is (evd_tup ead_nil (by show 0 ≤ 100000; decide)) ?_) fun v H2 e => k v H2 (e1.trans e)
    · rw [List.any_cons, List.any_cons, List.any_nil, eqv_srt2 x _ (nr (by decide)), eqv_srt2 x _ (nr (by decide)), Bool.or_false]
    · cases x <;> first | rfl | exact absurd h2 (by decide) | exact absurd (show (decide (("room" : Str) = "counter") || decide (("room" : Str) = "tickets")) = true from h2) (by decide)
    · cases x <;> first | rfl | exact absurd h2 (by decide) | exact absurd h (by decide)
/-- the word that is drawn -/
inductive WordR : Srt → PyData → List Int → Str → PyData → Prop
  | draw (n : Int) (us : List Int) : WordR .tickets (.int n) us "draw" .none
  | add (n : Int) (us : List Int) : WordR .counter (.int n) us "add" .none
  | count (n : Int) (us : List Int) : WordR .counter (.int n) us "count" .none
  | read (st : PyData) (us : List Int) : WordR .cell st us "read" .none
  | write (st : PyData) (us : List Int) (i : Int) : 0 ≤ i → i < 12 → i ∉ us → WordR .cell st us "write" (.int i)
  | take (s : Srt) (ns us : List Int) : s = .queue ∨ s = .stack ∨ s = .heads → WordR s (tupI ns) us "take" .none
  | put (s : Srt) (ns us : List Int) (i : Int) : s = .queue ∨ s = .stack ∨ s = .heads → 0 ≤ i → i < 12 → i ∉ us → WordR s (tupI ns) us "put" (.int i)
  | has (ns us : List Int) (i : Int) : 0 ≤ i → i < 12 → WordR .set (tupI ns) us "has" (.int i)
  | drop (ns us : List Int) (i : Int) : i ∈ ns → WordR .set (tupI ns) us "drop" (.int i)
  | join (ns us : List Int) (i : Int) : 0 ≤ i → i < 12 → i ∉ us → WordR .set (tupI ns) us "join" (.int i)
  | leave (m : Int) (ns us : List Int) (i : Int) : i ∈ ns → WordR (.room m) (tupI ns) us "leave" (.int i)
  | enter (m : Int) (ns us : List Int) (i : Int) : 0 ≤ i → i < 12 → i ∉ us → WordR (.room m) (tupI ns) us "enter" (.int i)
theorem value_go {σ : L2.St} {H : Hp} {z : Sp3} {i k j : Nat} {u : V} {us : List Int} {Q : VK} (hS : σ[i]? = some (some (.ref z.S))) (hu : σ[k]? = some (some u)) (hd : Dt K z.bar H u (.list (us.map PyData.int))) (h12 : us.length < 12) (sw : SW z H (j + 1)) (q : ∀ n H', 0 ≤ n → n < 12 → n ∉ us → Kp z.bar H H' → SW z H' j → Q (.int n) H') :
    tCall (spValue K z) [] C8.E0 (tCons (tVar i) (tCons (tVar k) tNil)) σ H Q := ⟨_, hS, _, hu, u, us, j, rfl, hd, h12, sw, q⟩
theorem if_go {σ : L2.St} {H : Hp} {t : TT} {ta tb : TE} {b : Bool} {Q : VK} (h : EvT t σ H b) (h1 : b = true → ∀ H1, Ex H H1 → ta σ H1 Q) (h2 : b = false → ∀ H1, Ex H H1 → tb σ H1 Q) : tIf t ta tb σ H Q := h H (Ex.refl H) _ fun H1 e => by
  cases b with
  | true => exact h1 rfl H1 e
  | false => exact h2 rfl H1 e
theorem pair_go {σ : L2.St} {H : Hp} {ta tb : TE} {d : PyData} {Q : VK} (h : EvD K ta σ H d) (k : ∀ v H1, Ex H H1 → Dt K No H1 v d → tb σ H1 fun u H2 => 2 ≤ sizeLine ∧ ∀ p, H2 p = none → Q (.ref p) (upd H2 p (.tup [v, u]))) : tTup (tCons ta (tCons tb tNil)) σ H Q := h.go k
theorem two_le : 2 ≤ sizeLine := by decide
def spWord (K : PySem.W.Frag) (z : Sp3) : Sp := fun vs H Q _ => ∃ a b u s st us j, vs = [.ref z.S, a, b, u] ∧ Dt K No H a (Srt.data s) ∧ s.ok ∧ Dt K No H b st ∧ StT s st ∧ (∀ ns, st = tupI ns → ns.length ≤ 20000) ∧ Dt K z.bar H u (.list ((us : List Int).map PyData.int)) ∧ us.length < 12 ∧ SW z H (j + 2) ∧
  ∀ v H' wo g, Kp z.bar H H' → SW z H' j → WordR s st us wo g → Dt K No H' v (.tuple [.str wo, g]) → Q v H'
theorem kp_noL {B : Addr → Prop} {H H' : Hp} {v : V} {d : PyData} (h : Dt K No H v d) (n : noL d = true) (x : Kp B H H') : Dt K No H' v d := ((h.any n : Dt K B H v d).ke x).no
theorem pair_dt {H2 : Hp} {p : Addr} {v u : V} {d e : PyData} (hp : H2 p = none) (h1 : Dt K No H2 v d) (h2 : Dt K No H2 u e) : Dt K No (upd H2 p (.tup [v, u])) (.ref p) (.tuple [d, e]) := .tup (SqT.of upd_same) (.cons (h1.ex (Ex.new hp)) (.cons (h2.ex (Ex.new hp)) .nil))
theorem c__law_word (T : Tx A0 K w mg) (z : Sp3) : C8.Cal P w K mg base 4 "_law_word" (spWord K z) [] := by
  have c__law_draw := c__law_draw (P := P) (base := base) T z
  have c__law_value := c__law_value (P := P) (base := base) T z
  refine cal_of T.d__law_word sc__law_word (fun vs H Q E h => by obtain ⟨a, b, u, s, st, us, j, rfl, _⟩ := h; rfl) (fun f cdv A outer s H vs Q E hr h => ?_)
  obtain ⟨a, b, u, s, st, us, j, rfl, ha, hok, hb, hst, hz, hu, h12, sw, k⟩ := h
  refine ⟨_, (pss_cons (ps_set (i := 4) sc__law_word.nd rfl (by first | exact Or.inl rfl | exact Or.inr rfl) (C8.pe_c c__law_draw hr (by decide) (by rfl) (pa_cons (pv 0) (pa_cons pe_int pa_nil))))
        (pss_cons (ps_if (pt_cmpR (op_eqD hr.units) (pv 1) pe_str (nomark _)) (pss_one (ps_ret (pe_tup (pa_cons pe_str (pa_cons pe_non pa_nil))))) pss_nil)
        (pss_cons (ps_if (pt_cmpR (op_eqD hr.units) (pv 1) pe_str (nomark _)) (pss_one (ps_ret (pe_ifExp (pt_cmpR op_lt (pv 4) pe_int (nomark _)) (pe_tup (pa_cons pe_str (pa_cons pe_non pa_nil))) (pe_tup (pa_cons pe_str (pa_cons pe_non pa_nil)))))) pss_nil)
        (pss_cons (ps_if (pt_cmpR (op_eqD hr.units) (pv 1) pe_str (nomark _)) (pss_one (ps_ret (pe_ifExp (pt_cmpR op_lt (pv 4) pe_int (nomark _)) (pe_tup (pa_cons pe_str (pa_cons pe_non pa_nil))) (pe_tup (pa_cons pe_str (pa_cons (C8.pe_c c__law_value hr (by decide) (by rfl) (pa_cons (pv 0) (pa_cons (pv 3) pa_nil))) pa_nil)))))) pss_nil)
        (pss_cons (ps_if (pt_cmpR (op_inTD (hu65 hr)) (pv 1) (pe_tup (pa_cons pe_str (pa_cons pe_str (pa_cons pe_str pa_nil)))) (by rfl)) (pss_one (ps_ret (pe_ifExp (pt_cmpR op_lt (pv 4) pe_int (nomark _)) (pe_tup (pa_cons pe_str (pa_cons pe_non pa_nil))) (pe_tup (pa_cons pe_str (pa_cons (C8.pe_c c__law_value hr (by decide) (by rfl) (pa_cons (pv 0) (pa_cons (pv 3) pa_nil))) pa_nil)))))) pss_nil)
        (pss_cons (ps_if (PW.pt (pw_and (pt_cmpR (op_eqD hr.units) (pv 1) pe_str (nomark _)) (pw_and1 (pt_cmpR op_eq (pv 4) pe_int (nomark _))))) (pss_one (ps_ret (pe_tup (pa_cons pe_str (pa_cons (C8.pe_c c__law_draw hr (by decide) (by rfl) (pa_cons (pv 0) (pa_cons pe_int pa_nil))) pa_nil))))) pss_nil)
        (pss_cons (ps_if (PW.pt (pw_or (PW.pt (pw_and (pt_cmpR op_lt (pv 4) pe_int (nomark _)) (pw_and1 (pt_cmpR (op_neD hr.units) (pv 2) (pe_tup pa_nil) (nomark _))))) (pw_or1 (PW.pt (pw_and (pt_cmpR (op_neD hr.units) (pv 1) pe_str (nomark _)) (pw_and1 (pt_cmpR op_eq (pe_callB call_len_seq (by rfl) T.len (by decide +kernel) (pa_cons (pv 2) pa_nil)) (pe_ix ix_tup (pv 1) pe_int (fun _ _ => rfl)) (nomark _)))))))) (pss_one (ps_ret (pe_tup (pa_cons (pe_ifExp (pt_cmpR (op_eqD hr.units) (pv 1) pe_str (nomark _)) pe_str pe_str) (pa_cons (pe_ix ix_tup (pv 2) (C8.pe_c c__law_draw hr (by decide) (by rfl) (pa_cons (pv 0) (pa_cons (pe_callB call_len_seq (by rfl) T.len (by decide +kernel) (pa_cons (pv 2) pa_nil)) pa_nil))) (fun _ _ => rfl)) pa_nil))))) pss_nil)
        (pss_one (ps_ret (pe_tup (pa_cons (pe_ifExp (pt_cmpR (op_eqD hr.units) (pv 1) pe_str (nomark _)) pe_str pe_str) (pa_cons (C8.pe_c c__law_value hr (by decide) (by rfl) (pa_cons (pv 0) (pa_cons (pv 3) pa_nil))) pa_nil)))))))))))), ?_⟩
  try simp only [cxK, cxK2, List.map_cons, List.map_nil]
  refine asg_go (draw_go (K := K) (j := j + 1) (m := 5) rfl sw ed_int (by decide) (by decide) fun r H1 r0 r1 kp sw1 => ?_)
  have nst : noL st = true := by
    cases s <;> first | (rcases hst with rfl | ⟨i, rfl⟩ <;> rfl) | (obtain ⟨i, rfl⟩ := hst; rfl) | (obtain ⟨ns, rfl⟩ := hst; exact noLs_ints ns)
  have ha := kp_noL ha (by cases s <;> rfl) kp
  have hb := kp_noL hb nst kp
  have hu := hu.ke kp
  have nst' := nst
  have eqS : ∀ x H2, Ex H1 H2 → PyData.strOk x = true → ("room" : Str) ≠ x → EvT (tTest (tOp (rEqD K) (tVar 1) (tC (.str x)))) ((start N__law_word [.ref z.S, a, b, u]).set 4 (some (.int r))) H2 (decide (s.name = x)) := fun x H2 e hx hn => td_test (ed_eqSrt (evd_var rfl (ha.ex e)) ed_str hx (nr hn))
  have in3 : ∀ H2, Ex H1 H2 → EvT (tTest (tOp (rInTD K) (tVar 1) (tTup (tCons (tC (.str "queue")) (tCons (tC (.str "stack")) (tCons (tC (.str "heads")) tNil)))))) ((start N__law_word [.ref z.S, a, b, u]).set 4 (some (.int r))) H2 (decide (s.name = "queue") || (decide (s.name = "stack") || decide (s.name = "heads"))) := fun H2 e => et_is (td_test (ed_inTD (evd_var rfl (ha.ex e)) (evd_tup (ead_cons ed_str (ead_cons ed_str (ead_cons ed_str ead_nil))) (by show 3 ≤ 100000; decide)) (shaped_srt s) (shaped_strs3 (by decide +kernel) (by decide +kernel) (by decide +kernel)))) (by
    rw [List.any_cons, List.any_cons, List.any_cons, List.any_nil, eqv_srt2 s _ (nr (by decide)), eqv_srt2 s _ (nr (by decide)), eqv_srt2 s _ (nr (by decide)), Bool.or_false])
  have lt : ∀ k H2, EvT (tTest (tOp (rI0 fun i j => .bl (decide (i < j))) (tVar 4) (tC (.int k)))) ((start N__law_word [.ref z.S, a, b, u]).set 4 (some (.int r))) H2 (decide (r < k)) := fun k H2 => td_test (K := K) (ed_b0 (g := fun i j => decide (i < j)) (evd_var (d := .int r) rfl (.int _)) ed_int)
  -- the ends
  have fin : ∀ wo g v H2, Ex H1 H2 → WordR s st us wo g → Dt K No H2 v (.tuple [.str wo, g]) → Q v H2 := fun wo g v H2 e hw hv => k v H2 wo g (kp.ex e) ((sw1.mono e).le (Nat.le_succ _)) hw hv
  have pure2 : ∀ wo H2, Ex H1 H2 → WordR s st us wo .none → ((tTup (tCons (tC (.str wo)) (tCons (tC .non) tNil))) ((start N__law_word [.ref z.S, a, b, u]).set 4 (some (.int r))) H2 Q) := fun wo H2 e hw => EvD.go (K := K) (d := .tuple [.str wo, .none]) (evd_tup (ead_cons ed_str (ead_cons ed_non ead_nil)) (by show 2 ≤ 100000; decide)) fun v H3 e3 hv => fin wo .none v H3 (e.trans e3) hw hv
  have valued : ∀ wo (te : TE) H2, Ex H1 H2 → EvD K te ((start N__law_word [.ref z.S, a, b, u]).set 4 (some (.int r))) H2 (.str wo) → (∀ i, 0 ≤ i → i < 12 → i ∉ us → WordR s st us wo (.int i)) → ((tTup (tCons te (tCons (tCall (spValue K z) [] C8.E0 (tCons (tVar 0) (tCons (tVar 3) tNil))) tNil))) ((start N__law_word [.ref z.S, a, b, u]).set 4 (some (.int r))) H2 Q) := fun wo te H2 e ht hw =>
    pair_go ht fun v H3 e3 hv => value_go (j := j) rfl rfl (hu.ex (e.trans e3)) h12 (sw1.mono (e.trans e3)) fun n H4 n0 n1 nn kp4 sw4 => ⟨two_le, fun p hp => k _ _ wo (.int n) ((kp.ex (e.trans e3)).trans (kp4.ex (Ex.new hp))) (sw4.mono (Ex.new hp)) (hw n n0 n1 nn) (by
      have hv := hv.toStr
      subst hv
      exact pair_dt hp (.str _) (.int _))⟩
  have taken : ∀ wo (te : TE) ns H2, Ex H1 H2 → st = tupI ns → ns ≠ [] → EvD K te ((start N__law_word [.ref z.S, a, b, u]).set 4 (some (.int r))) H2 (.str wo) → (∀ i, i ∈ ns → WordR s st us wo (.int i)) → ((tTup (tCons te (tCons (tOp (rIxT K) (tVar 2) (tCall (spDraw z) [] C8.E0 (tCons (tVar 0) (tCons (tCB (rLenS K) (tCons (tVar 2) tNil)) tNil)))) tNil))) ((start N__law_word [.ref z.S, a, b, u]).set 4 (some (.int r))) H2 Q) := fun wo te ns H2 e est hne ht hw =>
    pair_go ht fun v H3 e3 hv => by
      subst est
      have hlen : 0 < ns.length := List.length_pos_iff.mpr hne
      have hz' := hz ns rfl
      have hb3 := hb.ex (e.trans e3)
      refine op_go ⟨b, rfl, draw_go (K := K) (j := j) (m := (ns.length : Int)) rfl (sw1.mono (e.trans e3)) (evd_is (ed_len (evd_var rfl hb3) .t) (by rw [List.length_map])) (by omega) (by omega) fun q H4 q0 q1 kp4 sw4 => ?_⟩
      obtain ⟨p, xs, eb, hs, hd⟩ := (kp_noL hb3 (noLs_ints ns) kp4).toTup
      obtain rfl := hd.toInts
      have hq : q.toNat < ns.length := by omega
      refine ⟨p, ns.map V.int, q, .int ns[q.toNat], eb, rfl, hs, atI_of (j := q.toNat) (by omega) (by rw [List.getElem?_map]; simp [hq]), two_le, fun p2 hp => k _ _ wo (.int ns[q.toNat]) ((kp.ex (e.trans e3)).trans (kp4.ex (Ex.new hp))) (sw4.mono (Ex.new hp)) (hw _ (List.getElem_mem _)) ?_⟩
      have hv := hv.toStr
      subst hv
      exact pair_dt hp (.str _) (.int _)
  cases s with
  | tickets =>
    obtain ⟨n, rfl⟩ := hst
    refine q_hit (eqS "tickets" _ (Ex.refl _) (by decide +kernel) (by decide)) (by rfl) fun H2 e2 => ?_
    exact ret_go (pure2 "draw" H2 e2 (.draw n us))
  | counter =>
    obtain ⟨n, rfl⟩ := hst
    refine q_skip (eqS "tickets" _ (Ex.refl _) (by decide +kernel) (by decide)) (by rfl) fun H2 e2 => ?_
    refine q_hit (eqS "counter" _ e2 (by decide +kernel) (by decide)) (by rfl) fun H3 e3 => ?_
    exact ret_go (if_go (lt 3 H3) (fun _ H4 e4 => pure2 "add" H4 ((e2.trans e3).trans e4) (.add n us)) fun _ H4 e4 => pure2 "count" H4 ((e2.trans e3).trans e4) (.count n us))
  | cell =>
    refine q_skip (eqS "tickets" _ (Ex.refl _) (by decide +kernel) (by decide)) (by rfl) fun H2 e2 => ?_
    refine q_skip (eqS "counter" _ e2 (by decide +kernel) (by decide)) (by rfl) fun H3 e3 => ?_
    refine q_hit (eqS "cell" _ (e2.trans e3) (by decide +kernel) (by decide)) (by rfl) fun H4 e4 => ?_
    exact ret_go (if_go (lt 3 H4) (fun _ H5 e5 => pure2 "read" H5 (((e2.trans e3).trans e4).trans e5) (.read st us)) fun _ H5 e5 => valued "write" _ H5 (((e2.trans e3).trans e4).trans e5) ed_str fun i i0 i1 i2 => .write st us i i0 i1 i2)
  | queue =>
    obtain ⟨ns, rfl⟩ := hst
    refine q_skip (eqS "tickets" _ (Ex.refl _) (by decide +kernel) (by decide)) (by rfl) fun H2 e2 => ?_
    refine q_skip (eqS "counter" _ e2 (by decide +kernel) (by decide)) (by rfl) fun H3 e3 => ?_
    refine q_skip (eqS "cell" _ (e2.trans e3) (by decide +kernel) (by decide)) (by rfl) fun H4 e4 => ?_
    refine q_hit (in3 _ ((e2.trans e3).trans e4)) (by rfl) fun H5 e5 => ?_
    exact ret_go (if_go (lt 2 H5) (fun _ H6 e6 => pure2 "take" H6 ((((e2.trans e3).trans e4).trans e5).trans e6) (.take _ ns us (.inl rfl))) fun _ H6 e6 => valued "put" _ H6 ((((e2.trans e3).trans e4).trans e5).trans e6) ed_str fun i i0 i1 i2 => .put _ ns us i (.inl rfl) i0 i1 i2)
  | stack =>
    obtain ⟨ns, rfl⟩ := hst
    refine q_skip (eqS "tickets" _ (Ex.refl _) (by decide +kernel) (by decide)) (by rfl) fun H2 e2 => ?_
    refine q_skip (eqS "counter" _ e2 (by decide +kernel) (by decide)) (by rfl) fun H3 e3 => ?_
    refine q_skip (eqS "cell" _ (e2.trans e3) (by decide +kernel) (by decide)) (by rfl) fun H4 e4 => ?_
    refine q_hit (in3 _ ((e2.trans e3).trans e4)) (by rfl) fun H5 e5 => ?_
    exact ret_go (if_go (lt 2 H5) (fun _ H6 e6 => pure2 "take" H6 ((((e2.trans e3).trans e4).trans e5).trans e6) (.take _ ns us (.inr (.inl rfl)))) fun _ H6 e6 => valued "put" _ H6 ((((e2.trans e3).trans e4).trans e5).trans e6) ed_str fun i i0 i1 i2 => .put _ ns us i (.inr (.inl rfl)) i0 i1 i2)
  | heads =>
    obtain ⟨ns, rfl⟩ := hst
    refine q_skip (eqS "tickets" _ (Ex.refl _) (by decide +kernel) (by decide)) (by rfl) fun H2 e2 => ?_
    refine q_skip (eqS "counter" _ e2 (by decide +kernel) (by decide)) (by rfl) fun H3 e3 => ?_
    refine q_skip (eqS "cell" _ (e2.trans e3) (by decide +kernel) (by decide)) (by rfl) fun H4 e4 => ?_
    refine q_hit (in3 _ ((e2.trans e3).trans e4)) (by rfl) fun H5 e5 => ?_
    exact ret_go (if_go (lt 2 H5) (fun _ H6 e6 => pure2 "take" H6 ((((e2.trans e3).trans e4).trans e5).trans e6) (.take _ ns us (.inr (.inr rfl)))) fun _ H6 e6 => valued "put" _ H6 ((((e2.trans e3).trans e4).trans e5).trans e6) ed_str fun i i0 i1 i2 => .put _ ns us i (.inr (.inr rfl)) i0 i1 i2)
  | set =>
    obtain ⟨ns, rfl⟩ := hst
    refine q_skip (eqS "tickets" _ (Ex.refl _) (by decide +kernel) (by decide)) (by rfl) fun H2 e2 => ?_
    refine q_skip (eqS "counter" _ e2 (by decide +kernel) (by decide)) (by rfl) fun H3 e3 => ?_
    refine q_skip (eqS "cell" _ (e2.trans e3) (by decide +kernel) (by decide)) (by rfl) fun H4 e4 => ?_
    refine q_skip (in3 _ ((e2.trans e3).trans e4)) (by rfl) fun H5 e5 => ?_
    refine q_when (b := decide (r = 0)) (et_is (et_and (eqS "set" _ (((e2.trans e3).trans e4).trans e5) (by decide +kernel) (by decide)) fun _ => td_test (K := K) (ed_eqI (evd_var (d := .int r) rfl (.int _)) ed_int)) (by rw [show decide (Srt.set.name = "set") = true by rfl, Bool.true_and])) (fun _ H6 e6 => ?_) fun _ H6 e6 => ?_
    · have e06 := ((((e2.trans e3).trans e4).trans e5).trans e6)
      refine ret_go (pair_go (K := K) (d := .str "has") ed_str fun v H7 e7 hv => draw_go (K := K) (j := j) (m := 12) rfl (sw1.mono (e06.trans e7)) ed_int (by decide) (by decide) fun q H8 q0 q1 kp8 sw8 => ⟨two_le, fun p hp => ?_⟩)
      have hv := hv.toStr
      subst hv
      exact k _ _ "has" (.int q) ((kp.ex (e06.trans e7)).trans (kp8.ex (Ex.new hp))) (sw8.mono (Ex.new hp)) (.has ns us q q0 q1) (pair_dt hp (.str _) (.int _))
    · have e06 := ((((e2.trans e3).trans e4).trans e5).trans e6)
      refine q_when (b := decide (r < 3) && !ns.isEmpty) (et_is (et_or (b := false) (et_and (lt 3 H6) fun _ => td_test (ed_neD (evd_var rfl (hb.ex e06)) (evd_tup ead_nil (by show 0 ≤ 100000; decide)) (shaped_tupI ns) (shaped_tupI []))) fun _ => et_andF (et_is (td_test (ed_neD (evd_var rfl (ha.ex e06)) ed_str (shaped_srt .set) (shaped_str (by decide +kernel)))) (by rw [eqv_srt .set "set" (nr (by decide))]; rfl))) (by rw [eqv_nil, Bool.or_false])) (fun hb2 H7 e7 => ?_) fun _ H7 e7 => ?_
      · refine ret_go (taken "drop" _ ns H7 (e06.trans e7) rfl (fun en => by subst en; simp at hb2) (evd_if (b := true) (et_is (eqS "set" _ (e06.trans e7) (by decide +kernel) (by decide)) (by rfl)) (fun _ => ed_str) fun z => nomatch z) fun i hi => .drop ns us i hi)
      · refine ret_go (valued "join" _ H7 (e06.trans e7) (evd_if (b := true) (et_is (eqS "set" _ (e06.trans e7) (by decide +kernel) (by decide)) (by rfl)) (fun _ => ed_str) fun z => nomatch z) fun i i0 i1 i2 => .join ns us i i0 i1 i2)
  | room m =>
    obtain ⟨ns, rfl⟩ := hst
    refine q_skip (eqS "tickets" _ (Ex.refl _) (by decide +kernel) (by decide)) (by rfl) fun H2 e2 => ?_
    refine q_skip (eqS "counter" _ e2 (by decide +kernel) (by decide)) (by rfl) fun H3 e3 => ?_
    refine q_skip (eqS "cell" _ (e2.trans e3) (by decide +kernel) (by decide)) (by rfl) fun H4 e4 => ?_
    refine q_skip (in3 _ ((e2.trans e3).trans e4)) (by rfl) fun H5 e5 => ?_
    refine q_skip (et_andF (et_is (eqS "set" _ (((e2.trans e3).trans e4).trans e5) (by decide +kernel) (by decide)) (by rfl))) rfl fun H6 e6 => ?_
    have e06 := ((((e2.trans e3).trans e4).trans e5).trans e6)
    refine q_when (b := (decide (r < 3) && !ns.isEmpty) || decide ((ns.length : Int) = m)) (et_is (et_or (b := decide ((ns.length : Int) = m)) (et_and (lt 3 H6) fun _ => td_test (ed_neD (evd_var rfl (hb.ex e06)) (evd_tup ead_nil (by show 0 ≤ 100000; decide)) (shaped_tupI ns) (shaped_tupI []))) fun _ => et_is (et_and (et_is (td_test (ed_neD (evd_var rfl (ha.ex e06)) ed_str (shaped_srt (.room m)) (shaped_str (by decide +kernel)))) (by rw [eqv_srt (.room m) "set" (nr (by decide))]; rfl : _ = true)) fun _ => td_test (ed_eqI (evd_is (ed_len (evd_var rfl (hb.ex e06)) .t) (by rw [List.length_map])) (ed_ixT (i := 1) (d := .int m) (evd_var (d := .tuple [.str "room", .int m]) rfl (ha.ex e06)) ed_int rfl))) (by rw [Bool.true_and])) (by rw [eqv_nil])) (fun hb2 H7 e7 => ?_) fun _ H7 e7 => ?_
    · refine ret_go (taken "leave" _ ns H7 (e06.trans e7) rfl (fun en => by
        subst en
        have hm : 1 ≤ m := hok.1
        simp at hb2
        omega) (evd_if (b := false) (et_is (eqS "set" _ (e06.trans e7) (by decide +kernel) (by decide)) (by rfl)) (fun z => nomatch z) fun _ => ed_str) fun i hi => .leave m ns us i hi)
    · refine ret_go (valued "enter" _ H7 (e06.trans e7) (evd_if (b := false) (et_is (eqS "set" _ (e06.trans e7) (by decide +kernel) (by decide)) (by rfl)) (fun z => nomatch z) fun _ => ed_str) fun i i0 i1 i2 => .enter m ns us i i0 i1 i2)
end
end SB
end

section
set_option Elab.async false
set_option linter.all false
set_option maxRecDepth 100000
set_option maxHeartbeats 2000000
set_option autoImplicit false
/-! SbM1: plain: rows of doings and their stores. -/
namespace SB
open PySem PySem.Spec PyProof.Rows L2 Evl
/-- a row: thing, word, given, told -/
structure Rt where
  th : Nat
  wo : Str
  (giv told : PyData)
def Rt.data (r : Rt) : PyData := .tuple [.int (r.th : Int), .str r.wo, r.giv, r.told]
def GIV4 : List Str := ["write", "put", "enter", "join"]
def GIV2 : List Str := ["leave", "drop"]
def inStore (n : Int) : PyData → Prop
  | .tuple xs => PyData.int n ∈ xs
  | _ => False
/-- what is known of a store -/
def StF (s : Srt) (st : PyData) (us : List Int) (N : Nat) : Prop :=
  match s with
  | .cell => st = .none ∨ ∃ i, st = .int i ∧ 0 ≤ i ∧ i < 12
  | .counter | .tickets => ∃ n, st = .int n ∧ 0 ≤ n ∧ n ≤ (N : Int)
  | _ => ∃ ns, st = tupI ns ∧ (∀ n ∈ ns, 0 ≤ n ∧ n < 12 ∧ n ∈ us) ∧ ns.length ≤ N
/-- what is known of an earlier row of this thing -/
structure RowF (s : Srt) (st : PyData) (us : List Int) (r : Rt) : Prop where
  wo : r.wo ∈ s.words
  gv : canGive r.wo r.giv = true
  tl : canTell r.wo r.told = true
  g4 : r.wo ∈ GIV4 → toI r.giv ∈ us
  g2 : r.wo ∈ GIV2 → toI r.giv ∈ us ∧ ¬ inStore (toI r.giv) st
theorem inStore_tupI {n : Int} {ns : List Int} : inStore n (tupI ns) ↔ n ∈ ns := by
  show PyData.int n ∈ ns.map PyData.int ↔ _
  constructor
  · intro h
    obtain ⟨m, hm, e⟩ := List.mem_map.mp h
    injection e with e
    rw [← e]
    exact hm
  · intro h
    exact List.mem_map.mpr ⟨n, h, rfl⟩
theorem DoR.inv {wo : Str} {st g t st' : PyData} (h : DoR wo st g t st') :
    (wo = "write" ∧ ∃ i, g = .int i ∧ t = .none ∧ st' = .int i) ∨ (wo = "put" ∧ ∃ ns ms i, ms.Perm (ns ++ [i]) ∧ st = tupI ns ∧ g = .int i ∧ t = .none ∧ st' = tupI ms) ∨ (wo = "read" ∧ t = st ∧ st' = st) ∨ (wo = "count" ∧ t = st ∧ st' = st) ∨
    (wo = "add" ∧ ∃ n, st = .int n ∧ t = .none ∧ st' = .int (n + 1)) ∨ (wo = "draw" ∧ ∃ n, st = .int n ∧ t = .int n ∧ st' = .int (n + 1)) ∨ (wo = "take" ∧ st = tupI [] ∧ t = .none ∧ st' = tupI []) ∨
    (wo = "take" ∧ ∃ ns m, m ∈ ns ∧ st = tupI ns ∧ t = .int m ∧ st' = tupI (ns.filter fun i => !decide (i = m))) ∨ (wo = "has" ∧ ∃ ns i, st = tupI ns ∧ g = .int i ∧ t = .int (if decide (i ∈ ns) = true then 1 else 0) ∧ st' = tupI ns) ∨
    (wo = "enter" ∧ ∃ ns ms i, ms.Perm (ns ++ [i]) ∧ st = tupI ns ∧ g = .int i ∧ t = .none ∧ st' = tupI ms) ∨ (wo = "join" ∧ ∃ ns ms i, ms.Perm (ns ++ [i]) ∧ st = tupI ns ∧ g = .int i ∧ t = .none ∧ st' = tupI ms) ∨
    (wo = "leave" ∧ ∃ ns i, st = tupI ns ∧ g = .int i ∧ t = .none ∧ st' = tupI (ns.filter fun j => !decide (j = i))) ∨ (wo = "drop" ∧ ∃ ns i, st = tupI ns ∧ g = .int i ∧ t = .none ∧ st' = tupI (ns.filter fun j => !decide (j = i))) := by
  cases h with
  | write st i => exact .inl ⟨rfl, i, rfl, rfl, rfl⟩
  | put p => exact .inr (.inl ⟨rfl, _, _, _, p, rfl, rfl, rfl, rfl⟩)
  | read st => exact .inr (.inr (.inl ⟨rfl, rfl, rfl⟩))
  | count st => exact .inr (.inr (.inr (.inl ⟨rfl, rfl, rfl⟩)))
  | add n => exact .inr (.inr (.inr (.inr (.inl ⟨rfl, n, rfl, rfl, rfl⟩))))
  | draw n => exact .inr (.inr (.inr (.inr (.inr (.inl ⟨rfl, n, rfl, rfl, rfl⟩)))))
  | none => exact .inr (.inr (.inr (.inr (.inr (.inr (.inl ⟨rfl, rfl, rfl, rfl⟩))))))
  | take h => exact .inr (.inr (.inr (.inr (.inr (.inr (.inr (.inl ⟨rfl, _, _, h, rfl, rfl, rfl⟩)))))))
  | has ns i => exact .inr (.inr (.inr (.inr (.inr (.inr (.inr (.inr (.inl ⟨rfl, ns, i, rfl, rfl, rfl, rfl⟩))))))))
  | enter p => exact .inr (.inr (.inr (.inr (.inr (.inr (.inr (.inr (.inr (.inl ⟨rfl, _, _, _, p, rfl, rfl, rfl, rfl⟩)))))))))
  | join p => exact .inr (.inr (.inr (.inr (.inr (.inr (.inr (.inr (.inr (.inr (.inl ⟨rfl, _, _, _, p, rfl, rfl, rfl, rfl⟩))))))))))
  | leave ns i => exact .inr (.inr (.inr (.inr (.inr (.inr (.inr (.inr (.inr (.inr (.inr (.inl ⟨rfl, ns, i, rfl, rfl, rfl, rfl⟩)))))))))))
  | drop ns i => exact .inr (.inr (.inr (.inr (.inr (.inr (.inr (.inr (.inr (.inr (.inr (.inr ⟨rfl, ns, i, rfl, rfl, rfl, rfl⟩)))))))))))
theorem tupI_inj {ns ms : List Int} (h : tupI ns = tupI ms) : ns = ms := by
  injection h with h
  induction ns generalizing ms with
  | nil =>
    cases ms with
    | nil => rfl
    | cons m r => cases h
  | cons n r ih =>
    cases ms with
    | nil => cases h
    | cons m q =>
      injection h with h1 h2
      injection h1 with h1
      rw [h1, ih h2]
/-- the doing that is drawn is one that the store can do -/
theorem WordR.pre {s : Srt} {st : PyData} {us : List Int} {wo : Str} {g : PyData} (h : WordR s st us wo g) : DoPre s wo st g := by
  cases h with
  | draw n us => exact .draw _ n
  | add n us => exact .add _ n
  | count n us => exact .count _ _
  | read st us => exact .read _ _
  | write st us i _ _ _ => exact .write _ _ i
  | take s ns us _ => exact .take _ ns
  | put s ns us i _ _ _ _ => exact .put _ ns i
  | has ns us i _ _ => exact .has _ ns i
  | drop ns us i _ => exact .drop _ ns i
  | join ns us i _ _ _ => exact .join _ ns i
  | leave m ns us i _ => exact .leave _ ns i
  | enter m ns us i _ _ _ => exact .enter m ns i
/-- the used values behind a word -/
def usedBy (wo : Str) (g : PyData) (us : List Int) : List Int := if decide (wo ∈ GIV4) = true then us ++ [toI g] else us
/-- one doing: what is known behind it -/
structure Step (s : Srt) (st : PyData) (us : List Int) (N : Nat) (wo : Str) (g t st' : PyData) : Prop where
  stf : StF s st' (usedBy wo g us) (N + 1)
  wow : wo ∈ s.words
  gv : canGive wo g = true
  tl : canTell wo t = true
  g4 : wo ∈ GIV4 → (∃ i, g = .int i ∧ 0 ≤ i ∧ i < 12) ∧ toI g ∉ us
  g2 : wo ∈ GIV2 → toI g ∈ us ∧ inStore (toI g) st ∧ ¬ inStore (toI g) st'
  inc : ∀ n, n ∈ us → inStore n st' → inStore n st
  nm : wo ∈ NUM → toI t ≤ (N : Int)
theorem canGive_non {w : Str} (h : (decide (w ∈ GIV) || decide (w = "has")) = false) : canGive w .none = true := by
  unfold canGive
  rw [if_neg (by rw [h]; decide)]
  rfl
theorem canGive_int12 {w : Str} {i : Int} (h : (decide (w ∈ GIV) || decide (w = "has")) = true) (h0 : 0 ≤ i) (h1 : i < 12) : canGive w (.int i) = true := by
  unfold canGive
  rw [if_pos h]
  show (decide (0 ≤ i) && decide (i ≤ 1000000)) = true
  rw [decide_eq_true h0, decide_eq_true (by omega)]
  rfl
theorem canTell_none {w : Str} (h : w ∉ NUM ∧ w ≠ "has") : canTell w .none = true := by
  unfold canTell
  by_cases h1 : w ∈ ASK
  · rw [if_pos (decide_eq_true h1)]
    rfl
  · rw [if_neg (by simp [h1]), if_neg (by simp [h.1]), if_neg (by simp [h.2])]
    rfl
theorem isVal_of {i : Int} (h0 : 0 ≤ i) (h1 : i ≤ 1000000) : isVal (.int i) = true := by
  show (decide (0 ≤ i) && decide (i ≤ 1000000)) = true
  rw [decide_eq_true h0, decide_eq_true h1]
  rfl
theorem canTell_ask {w : Str} {i : Int} (h : w ∈ ASK ∨ w ∈ NUM) (h0 : 0 ≤ i) (h1 : i ≤ 1000000) : canTell w (.int i) = true := by
  unfold canTell
  by_cases h2 : w ∈ ASK
  · rw [if_pos (decide_eq_true h2), isVal_of h0 h1]
    rfl
  · rw [if_neg (by simp [h2]), if_pos (decide_eq_true (h.resolve_left h2)), isVal_of h0 h1]
theorem seq_of {s : Srt} {st : PyData} {us : List Int} {N : Nat} (h : StF s st us N) (hs : s ≠ .cell ∧ s ≠ .counter ∧ s ≠ .tickets) : ∃ ns, st = tupI ns ∧ (∀ n ∈ ns, 0 ≤ n ∧ n < 12 ∧ n ∈ us) ∧ ns.length ≤ N := by
  cases s <;> first | exact h | exact absurd rfl hs.1 | exact absurd rfl hs.2.1 | exact absurd rfl hs.2.2
theorem of_seq {s : Srt} {ns : List Int} {us : List Int} {N : Nat} (hs : s ≠ .cell ∧ s ≠ .counter ∧ s ≠ .tickets) (h : ∀ n ∈ ns, 0 ≤ n ∧ n < 12 ∧ n ∈ us) (hl : ns.length ≤ N) : StF s (tupI ns) us N := by
  cases s <;> first | exact ⟨ns, rfl, h, hl⟩ | exact absurd rfl hs.1 | exact absurd rfl hs.2.1 | exact absurd rfl hs.2.2
theorem used_no {wo : Str} {g : PyData} {us : List Int} (h : decide (wo ∈ GIV4) = false) : usedBy wo g us = us := by
  unfold usedBy
  rw [if_neg (by rw [h]; decide)]
theorem used_yes {wo : Str} {i : Int} {us : List Int} (h : decide (wo ∈ GIV4) = true) : usedBy wo (.int i) us = us ++ [i] := by
  unfold usedBy
  rw [if_pos h]
  rfl
/-- a sequence takes one more value -/
theorem step_in {s : Srt} {ns ms us : List Int} {N : Nat} {i : Int} {w : Str} (hs : s ≠ .cell ∧ s ≠ .counter ∧ s ≠ .tickets) (h : ∀ n ∈ ns, 0 ≤ n ∧ n < 12 ∧ n ∈ us) (hl : ns.length ≤ N) (pm : ms.Perm (ns ++ [i])) (h0 : 0 ≤ i) (h1 : i < 12) (h2 : i ∉ us)
    (hw : w ∈ s.words) (h4 : decide (w ∈ GIV4) = true) (hg : (decide (w ∈ GIV) || decide (w = "has")) = true) (ht : w ∉ NUM ∧ w ≠ "has") (hn : w ∉ GIV2) : Step s (tupI ns) us N w (.int i) .none (tupI ms) := by
  have mem : ∀ n, n ∈ ms ↔ n ∈ ns ∨ n = i := fun n => by
    rw [pm.mem_iff, List.mem_append, List.mem_singleton]
  refine ⟨?_, hw, canGive_int12 hg h0 h1, canTell_none ht, fun _ => ⟨⟨i, rfl, h0, h1⟩, h2⟩, fun z => absurd z hn, fun n hn hin => ?_, fun z => absurd z ht.1⟩
  · rw [used_yes h4]
    refine of_seq hs (fun n hn => ?_) (by rw [pm.length_eq, List.length_append]; exact Nat.succ_le_succ hl)
    rcases (mem n).mp hn with hn | hn
    · have := h n hn
      exact ⟨this.1, this.2.1, List.mem_append_left _ this.2.2⟩
    · subst hn
      exact ⟨h0, h1, List.mem_append_right _ (List.mem_singleton.mpr rfl)⟩
  · rw [inStore_tupI] at hin ⊢
    rcases (mem n).mp hin with h' | h'
    · exact h'
    · subst h'
      exact absurd hn h2
/-- a sequence loses a value -/
theorem step_out {s : Srt} {ns us : List Int} {N : Nat} {i : Int} {w : Str} (hs : s ≠ .cell ∧ s ≠ .counter ∧ s ≠ .tickets) (h : ∀ n ∈ ns, 0 ≤ n ∧ n < 12 ∧ n ∈ us) (hl : ns.length ≤ N) (hi : i ∈ ns)
    (hw : w ∈ s.words) (h4 : decide (w ∈ GIV4) = false) (hg : (decide (w ∈ GIV) || decide (w = "has")) = true) (ht : w ∉ NUM ∧ w ≠ "has") : Step s (tupI ns) us N w (.int i) .none (tupI (ns.filter fun j => !decide (j = i))) := by
  have b := h i hi
  refine ⟨?_, hw, canGive_int12 hg b.1 b.2.1, canTell_none ht, (fun z => absurd (h4.symm.trans (decide_eq_true z)) (by decide)), fun _ => ⟨b.2.2, inStore_tupI.mpr hi, fun z => ?_⟩, fun n _ hin => ?_, fun z => absurd z ht.1⟩
  · rw [used_no h4]
    exact of_seq hs (fun n hn => h n (List.mem_filter.mp hn).1) (Nat.le_succ_of_le (Nat.le_trans (List.length_filter_le _ _) hl))
  · rw [inStore_tupI, List.mem_filter] at z
    have : (!decide (i = i)) = true := z.2
    simp at this
  · rw [inStore_tupI] at hin ⊢
    exact (List.mem_filter.mp hin).1
theorem step {s : Srt} {st : PyData} {us : List Int} {N : Nat} {wo : Str} {g t st' : PyData} (hN : N ≤ 1000) (hs : StF s st us N) (hw : WordR s st us wo g) (hd : DoR wo st g t st') : Step s st us N wo g t st' := by
  cases hw with
  | draw n us =>
    obtain ⟨n', e, h0, h1⟩ := hs
    obtain rfl := PyData.int.inj e
    rcases hd.inv with ⟨e, _⟩ | ⟨e, _⟩ | ⟨e, _⟩ | ⟨e, _⟩ | ⟨e, _⟩ | ⟨_, m, e, rfl, rfl⟩ | ⟨e, _⟩ | ⟨e, _⟩ | ⟨e, _⟩ | ⟨e, _⟩ | ⟨e, _⟩ | ⟨e, _⟩ | ⟨e, _⟩ <;> first | exact absurd e (by decide) | skip
    obtain rfl := PyData.int.inj e
    exact ⟨by rw [used_no (by decide)]; exact ⟨_, rfl, by omega, by omega⟩, by decide, canGive_non (by decide), canTell_ask (.inr (by decide)) h0 (by omega), fun z => absurd z (by decide), fun z => absurd z (by decide), fun _ _ h => h.elim, fun _ => h1⟩
  | add n us =>
    obtain ⟨n', e, h0, h1⟩ := hs
    obtain rfl := PyData.int.inj e
    rcases hd.inv with ⟨e, _⟩ | ⟨e, _⟩ | ⟨e, _⟩ | ⟨e, _⟩ | ⟨_, m, e, rfl, rfl⟩ | ⟨e, _⟩ | ⟨e, _⟩ | ⟨e, _⟩ | ⟨e, _⟩ | ⟨e, _⟩ | ⟨e, _⟩ | ⟨e, _⟩ | ⟨e, _⟩ <;> first | exact absurd e (by decide) | skip
    obtain rfl := PyData.int.inj e
    exact ⟨by rw [used_no (by decide)]; exact ⟨_, rfl, by omega, by omega⟩, by decide, canGive_non (by decide), canTell_none (by decide), fun z => absurd z (by decide), fun z => absurd z (by decide), fun _ _ h => h.elim, fun z => absurd z (by decide)⟩
  | count n us =>
    obtain ⟨n', e, h0, h1⟩ := hs
    obtain rfl := PyData.int.inj e
    rcases hd.inv with ⟨e, _⟩ | ⟨e, _⟩ | ⟨e, _⟩ | ⟨_, rfl, rfl⟩ | ⟨e, _⟩ | ⟨e, _⟩ | ⟨e, _⟩ | ⟨e, _⟩ | ⟨e, _⟩ | ⟨e, _⟩ | ⟨e, _⟩ | ⟨e, _⟩ | ⟨e, _⟩ <;> first | exact absurd e (by decide) | skip
    exact ⟨by rw [used_no (by decide)]; exact ⟨_, rfl, by omega, by omega⟩, by decide, canGive_non (by decide), canTell_ask (.inr (by decide)) h0 (by omega), fun z => absurd z (by decide), fun z => absurd z (by decide), fun _ _ h => h.elim, fun _ => h1⟩
  | read st us =>
    rcases hd.inv with ⟨e, _⟩ | ⟨e, _⟩ | ⟨_, rfl, rfl⟩ | ⟨e, _⟩ | ⟨e, _⟩ | ⟨e, _⟩ | ⟨e, _⟩ | ⟨e, _⟩ | ⟨e, _⟩ | ⟨e, _⟩ | ⟨e, _⟩ | ⟨e, _⟩ | ⟨e, _⟩ <;> first | exact absurd e (by decide) | skip
    refine ⟨by rw [used_no (by decide)]; exact hs, by decide, canGive_non (by decide), ?_, fun z => absurd z (by decide), fun z => absurd z (by decide), fun _ _ h => h, fun z => absurd z (by decide)⟩
    rcases hs with rfl | ⟨i, rfl, h0, h1⟩
    · exact canTell_none (by decide)
    · exact canTell_ask (.inl (by decide)) h0 (by omega)
  | write st us i h0 h1 h2 =>
    rcases hd.inv with ⟨_, j, e, rfl, rfl⟩ | ⟨e, _⟩ | ⟨e, _⟩ | ⟨e, _⟩ | ⟨e, _⟩ | ⟨e, _⟩ | ⟨e, _⟩ | ⟨e, _⟩ | ⟨e, _⟩ | ⟨e, _⟩ | ⟨e, _⟩ | ⟨e, _⟩ | ⟨e, _⟩ <;> first | exact absurd e (by decide) | skip
    obtain rfl := PyData.int.inj e
    exact ⟨.inr ⟨_, rfl, h0, h1⟩, by decide, canGive_int12 (by decide) h0 h1, canTell_none (by decide), fun _ => ⟨⟨_, rfl, h0, h1⟩, h2⟩, fun z => absurd z (by decide), fun _ _ h => h.elim, fun z => absurd z (by decide)⟩
  | take s ns us h =>
    have ns0 : s ≠ .cell ∧ s ≠ .counter ∧ s ≠ .tickets := by rcases h with rfl | rfl | rfl <;> decide
    have hww : ("take" : Str) ∈ s.words := by rcases h with rfl | rfl | rfl <;> decide
    obtain ⟨ns', e, hb, hl⟩ := seq_of hs ns0
    obtain rfl := tupI_inj e
    rcases hd.inv with ⟨e, _⟩ | ⟨e, _⟩ | ⟨e, _⟩ | ⟨e, _⟩ | ⟨e, _⟩ | ⟨e, _⟩ | ⟨_, _, rfl, rfl⟩ | ⟨_, ms, m, hm, e, rfl, rfl⟩ | ⟨e, _⟩ | ⟨e, _⟩ | ⟨e, _⟩ | ⟨e, _⟩ | ⟨e, _⟩ <;> first | exact absurd e (by decide) | skip
    · exact ⟨by rw [used_no (by decide)]; exact of_seq ns0 (fun n hn => absurd hn List.not_mem_nil) (Nat.zero_le _), hww, canGive_non (by decide), canTell_none (by decide), fun z => absurd z (by decide), fun z => absurd z (by decide), fun n _ h => by
        rw [inStore_tupI] at h
        exact absurd h List.not_mem_nil, fun z => absurd z (by decide)⟩
    · obtain rfl := tupI_inj e
      have b := hb m hm
      refine ⟨?_, hww, canGive_non (by decide), canTell_ask (.inl (by decide)) b.1 (by omega), fun z => absurd z (by decide), fun z => absurd z (by decide), fun n _ hin => ?_, fun z => absurd z (by decide)⟩
      · rw [used_no (by decide)]
        exact of_seq ns0 (fun n hn => hb n (List.mem_filter.mp hn).1) (Nat.le_succ_of_le (Nat.le_trans (List.length_filter_le _ _) hl))
      · rw [inStore_tupI] at hin ⊢
        exact (List.mem_filter.mp hin).1
  | put s ns us i h h0 h1 h2 =>
    have ns0 : s ≠ .cell ∧ s ≠ .counter ∧ s ≠ .tickets := by rcases h with rfl | rfl | rfl <;> decide
    have hww : ("put" : Str) ∈ s.words := by rcases h with rfl | rfl | rfl <;> decide
    obtain ⟨ns', e, hb, hl⟩ := seq_of hs ns0
    obtain rfl := tupI_inj e
    rcases hd.inv with ⟨e, _⟩ | ⟨_, ns2, ms, j, pm, e, e2, rfl, rfl⟩ | ⟨e, _⟩ | ⟨e, _⟩ | ⟨e, _⟩ | ⟨e, _⟩ | ⟨e, _⟩ | ⟨e, _⟩ | ⟨e, _⟩ | ⟨e, _⟩ | ⟨e, _⟩ | ⟨e, _⟩ | ⟨e, _⟩ <;> first | exact absurd e (by decide) | skip
    obtain rfl := tupI_inj e
    obtain rfl := PyData.int.inj e2
    exact step_in ns0 hb hl pm h0 h1 h2 hww (by decide) (by decide) (by decide) (by decide)
  | has ns us i h0 h1 =>
    obtain ⟨ns', e, hb, hl⟩ := hs
    obtain rfl := tupI_inj e
    rcases hd.inv with ⟨e, _⟩ | ⟨e, _⟩ | ⟨e, _⟩ | ⟨e, _⟩ | ⟨e, _⟩ | ⟨e, _⟩ | ⟨e, _⟩ | ⟨e, _⟩ | ⟨_, ns2, j, e, e2, rfl, rfl⟩ | ⟨e, _⟩ | ⟨e, _⟩ | ⟨e, _⟩ | ⟨e, _⟩ <;> first | exact absurd e (by decide) | skip
    obtain rfl := tupI_inj e
    obtain rfl := PyData.int.inj e2
    refine ⟨?_, by decide, canGive_int12 (by decide) h0 h1, ?_, fun z => absurd z (by decide), fun z => absurd z (by decide), fun _ _ h => h, fun z => absurd z (by decide)⟩
    · rw [used_no (by decide)]
      exact ⟨_, rfl, hb, Nat.le_succ_of_le hl⟩
    · split <;> rfl
  | drop ns us i hi =>
    obtain ⟨ns', e, hb, hl⟩ := hs
    obtain rfl := tupI_inj e
    rcases hd.inv with ⟨e, _⟩ | ⟨e, _⟩ | ⟨e, _⟩ | ⟨e, _⟩ | ⟨e, _⟩ | ⟨e, _⟩ | ⟨e, _⟩ | ⟨e, _⟩ | ⟨e, _⟩ | ⟨e, _⟩ | ⟨e, _⟩ | ⟨e, _⟩ | ⟨_, ns2, j, e, e2, rfl, rfl⟩ <;> first | exact absurd e (by decide) | skip
    obtain rfl := tupI_inj e
    obtain rfl := PyData.int.inj e2
    exact step_out (by decide) hb hl hi (by decide) (by decide) (by decide) (by decide)
  | join ns us i h0 h1 h2 =>
    obtain ⟨ns', e, hb, hl⟩ := hs
    obtain rfl := tupI_inj e
    rcases hd.inv with ⟨e, _⟩ | ⟨e, _⟩ | ⟨e, _⟩ | ⟨e, _⟩ | ⟨e, _⟩ | ⟨e, _⟩ | ⟨e, _⟩ | ⟨e, _⟩ | ⟨e, _⟩ | ⟨e, _⟩ | ⟨_, ns2, ms, j, pm, e, e2, rfl, rfl⟩ | ⟨e, _⟩ | ⟨e, _⟩ <;> first | exact absurd e (by decide) | skip
    obtain rfl := tupI_inj e
    obtain rfl := PyData.int.inj e2
    exact step_in (by decide) hb hl pm h0 h1 h2 (by decide) (by decide) (by decide) (by decide) (by decide)
  | leave m ns us i hi =>
    obtain ⟨ns', e, hb, hl⟩ := hs
    obtain rfl := tupI_inj e
    rcases hd.inv with ⟨e, _⟩ | ⟨e, _⟩ | ⟨e, _⟩ | ⟨e, _⟩ | ⟨e, _⟩ | ⟨e, _⟩ | ⟨e, _⟩ | ⟨e, _⟩ | ⟨e, _⟩ | ⟨e, _⟩ | ⟨e, _⟩ | ⟨_, ns2, j, e, e2, rfl, rfl⟩ | ⟨e, _⟩ <;> first | exact absurd e (by decide) | skip
    obtain rfl := tupI_inj e
    obtain rfl := PyData.int.inj e2
    exact step_out ⟨by simp, by simp, by simp⟩ hb hl hi (show ("leave" : Str) ∈ (["enter", "leave"] : List Str) by decide) (by decide) (by decide) (by decide)
  | enter m ns us i h0 h1 h2 =>
    obtain ⟨ns', e, hb, hl⟩ := hs
    obtain rfl := tupI_inj e
    rcases hd.inv with ⟨e, _⟩ | ⟨e, _⟩ | ⟨e, _⟩ | ⟨e, _⟩ | ⟨e, _⟩ | ⟨e, _⟩ | ⟨e, _⟩ | ⟨e, _⟩ | ⟨e, _⟩ | ⟨_, ns2, ms, j, pm, e, e2, rfl, rfl⟩ | ⟨e, _⟩ | ⟨e, _⟩ | ⟨e, _⟩ <;> first | exact absurd e (by decide) | skip
    obtain rfl := tupI_inj e
    obtain rfl := PyData.int.inj e2
    exact step_in ⟨by simp, by simp, by simp⟩ hb hl pm h0 h1 h2 (show ("enter" : Str) ∈ (["enter", "leave"] : List Str) by decide) (by decide) (by decide) (by decide) (by decide)
end SB
end

section
set_option Elab.async false
set_option linter.all false
set_option maxRecDepth 100000
set_option maxHeartbeats 2000000
set_option autoImplicit false
/-! SbM2: plain: rows, all of them. -/
namespace SB
open PySem PySem.Spec PyProof.Rows L2 Evl
def keyR (r : Rt) : List Key := [.inl (r.th : Int), .inr r.wo, .inl (toI r.giv)]
def keysR (rs : List Rt) : List (List Key) := (rs.filter fun r => decide (r.wo ∈ GIV)).map keyR
structure RowsF (ss : List Srt) (sts : List PyData) (uss : List (List Int)) (rs : List Rt) (N : Nat) : Prop where
  l1 : sts.length = ss.length
  l2 : uss.length = ss.length
  sf : ∀ (k : Nat) s st us, ss[k]? = some s → sts[k]? = some st → uss[k]? = some us → StF s st us N ∧ us.length ≤ N
  rf : ∀ r ∈ rs, ∃ s st us, ss[r.th]? = some s ∧ sts[r.th]? = some st ∧ uss[r.th]? = some us ∧ RowF s st us r
  gk : (keysR rs).Nodup
  nm : ∀ r ∈ rs, r.wo ∈ NUM → toI r.told ≤ (N : Int)
theorem StF.mono {s : Srt} {st : PyData} {us : List Int} {N M : Nat} (h : StF s st us N) (l : N ≤ M) : StF s st us M := by
  cases s with
  | cell => exact h
  | counter =>
    obtain ⟨n, e, h0, h1⟩ := h
    exact ⟨n, e, h0, by omega⟩
  | tickets =>
    obtain ⟨n, e, h0, h1⟩ := h
    exact ⟨n, e, h0, by omega⟩
  | queue =>
    obtain ⟨ns, e, h0, h1⟩ := h
    exact ⟨ns, e, h0, by omega⟩
  | stack =>
    obtain ⟨ns, e, h0, h1⟩ := h
    exact ⟨ns, e, h0, by omega⟩
  | heads =>
    obtain ⟨ns, e, h0, h1⟩ := h
    exact ⟨ns, e, h0, by omega⟩
  | set =>
    obtain ⟨ns, e, h0, h1⟩ := h
    exact ⟨ns, e, h0, by omega⟩
  | room m =>
    obtain ⟨ns, e, h0, h1⟩ := h
    exact ⟨ns, e, h0, by omega⟩
theorem rows0 (ss : List Srt) : RowsF ss (ss.map store0) (ss.map fun _ => []) [] 0 := by
  refine ⟨List.length_map _, List.length_map _, fun k s st us h1 h2 h3 => ?_, fun r hr => absurd hr List.not_mem_nil, List.nodup_nil, fun r hr => absurd hr List.not_mem_nil⟩
  rw [List.getElem?_map, h1] at h2 h3
  obtain rfl := Option.some.inj h2
  obtain rfl := Option.some.inj h3
  refine ⟨?_, Nat.le_refl _⟩
  cases s <;> first | exact .inl rfl | exact ⟨0, rfl, by decide, by decide⟩ | exact ⟨[], rfl, fun n hn => absurd hn List.not_mem_nil, Nat.le_refl _⟩
theorem usedBy_sub {wo : Str} {g : PyData} {us : List Int} {n : Int} (h : n ∈ us) : n ∈ usedBy wo g us := by
  unfold usedBy
  split
  · exact List.mem_append_left _ h
  · exact h
theorem usedBy_len {wo : Str} {g : PyData} {us : List Int} : (usedBy wo g us).length ≤ us.length + 1 := by
  unfold usedBy
  split
  · rw [List.length_append]
    exact Nat.le_refl _
  · exact Nat.le_succ _
theorem giv_split {w : Str} (h : w ∈ GIV) : w ∈ GIV4 ∨ w ∈ GIV2 := by
  have : w = "write" ∨ w = "put" ∨ w = "enter" ∨ w = "leave" ∨ w = "join" ∨ w = "drop" := by simpa [GIV] using h
  rcases this with rfl | rfl | rfl | rfl | rfl | rfl <;> first | exact .inl (by decide) | exact .inr (by decide)
theorem keysR_snoc (rs : List Rt) (r : Rt) : keysR (rs ++ [r]) = if r.wo ∈ GIV then keysR rs ++ [keyR r] else keysR rs := by
  unfold keysR
  rw [List.filter_append, List.map_append]
  by_cases h : r.wo ∈ GIV
  · simp [h]
  · simp [h]
theorem RowsF.step {ss : List Srt} {sts : List PyData} {uss : List (List Int)} {rs : List Rt} {N k : Nat} {s : Srt} {st : PyData} {us : List Int} {wo : Str} {g t st' : PyData} (R : RowsF ss sts uss rs N) (h1 : ss[k]? = some s) (h2 : sts[k]? = some st) (h3 : uss[k]? = some us)
    (S : Step s st us N wo g t st') : RowsF ss (sts.set k st') (uss.set k (usedBy wo g us)) (rs ++ [⟨k, wo, g, t⟩]) (N + 1) := by
  have k2 : k < sts.length := (List.getElem?_eq_some_iff.mp h2).1
  have k3 : k < uss.length := (List.getElem?_eq_some_iff.mp h3).1
  refine ⟨by rw [List.length_set]; exact R.l1, by rw [List.length_set]; exact R.l2, fun j s1 st1 us1 a b c => ?_, fun r hr => ?_, ?_, fun r hr hw => ?_⟩
  · by_cases e : j = k
    · subst e
      rw [List.getElem?_set_self k2] at b
      rw [List.getElem?_set_self k3] at c
      rw [h1] at a
      obtain rfl := Option.some.inj a
      obtain rfl := Option.some.inj b
      obtain rfl := Option.some.inj c
      have l := (R.sf j s st us h1 h2 h3).2
      have := usedBy_len (wo := wo) (g := g) (us := us)
      exact ⟨S.stf, by omega⟩
    · rw [List.getElem?_set_ne (Ne.symm e)] at b c
      have q := R.sf j s1 st1 us1 a b c
      exact ⟨q.1.mono (Nat.le_succ _), Nat.le_succ_of_le q.2⟩
  · rcases List.mem_append.mp hr with hr | hr
    · obtain ⟨s1, st1, us1, a, b, c, F⟩ := R.rf r hr
      by_cases e : r.th = k
      · rw [e] at a b c
        rw [h1] at a
        rw [h2] at b
        rw [h3] at c
        obtain rfl := Option.some.inj a
        obtain rfl := Option.some.inj b
        obtain rfl := Option.some.inj c
        refine ⟨s, st', usedBy wo g us, by rw [e]; exact h1, by rw [e, List.getElem?_set_self k2], by rw [e, List.getElem?_set_self k3], F.wo, F.gv, F.tl, fun z => usedBy_sub (F.g4 z), fun z => ?_⟩
        have q := F.g2 z
        exact ⟨usedBy_sub q.1, fun hin => q.2 (S.inc _ q.1 hin)⟩
      · exact ⟨s1, st1, us1, a, by rw [List.getElem?_set_ne (Ne.symm e)]; exact b, by rw [List.getElem?_set_ne (Ne.symm e)]; exact c, F⟩
    · obtain rfl := List.mem_singleton.mp hr
      refine ⟨s, st', usedBy wo g us, h1, List.getElem?_set_self k2, List.getElem?_set_self k3, S.wow, S.gv, S.tl, fun z => ?_, fun z => ⟨usedBy_sub (S.g2 z).1, (S.g2 z).2.2⟩⟩
      unfold usedBy
      rw [if_pos (decide_eq_true z)]
      exact List.mem_append_right _ (List.mem_singleton.mpr rfl)
  · rw [keysR_snoc]
    split
    · rename_i hg
      rw [List.nodup_append]
      refine ⟨R.gk, List.nodup_cons.mpr ⟨List.not_mem_nil, List.nodup_nil⟩, fun a ha b hb e => ?_⟩
      obtain rfl := List.mem_singleton.mp hb
      subst e
      obtain ⟨r, hr, ek⟩ := List.mem_map.mp ha
      have hr1 := (List.mem_filter.mp hr).1
      unfold keyR at ek
      injection ek with e1 ek
      injection ek with e2 ek
      injection ek with e3 _
      have e1 : (r.th : Int) = (k : Int) := Sum.inl.inj e1
      have e2 : r.wo = wo := Sum.inr.inj e2
      have e3 : toI r.giv = toI g := Sum.inl.inj e3
      have e1 : r.th = k := by omega
      obtain ⟨s1, st1, us1, a, b, c, F⟩ := R.rf r hr1
      rw [e1] at a b c
      rw [h2] at b
      rw [h3] at c
      obtain rfl := Option.some.inj b
      obtain rfl := Option.some.inj c
      rcases giv_split hg with z | z
      · have q := F.g4 (by rw [e2]; exact z)
        rw [e3] at q
        exact (S.g4 z).2 q
      · have q := F.g2 (by rw [e2]; exact z)
        rw [e3] at q
        exact q.2 (S.g2 z).2.1
    · exact R.gk
  · rcases List.mem_append.mp hr with hr | hr
    · have := R.nm r hr hw
      omega
    · obtain rfl := List.mem_singleton.mp hr
      have : toI t ≤ (N : Int) := S.nm hw
      show toI t ≤ _
      omega
end SB
end

section
set_option Elab.async false
set_option linter.all false
set_option maxRecDepth 100000
set_option maxHeartbeats 2000000
set_option autoImplicit false
/-! SbL5: the rows of a history. -/
namespace SB
open PySem PySem.Spec PyProof.Rows L2 Evl
abbrev s__law_row : Stmt := topS 52
abbrev N__law_row : List Str := ["_law_state", "_law_sorts_here", "_law_many", "_law_stores", "_law_used", "_law_row_here", "_law_sort", "_law_k", "_law_thing", "_law_word_here", "_law_given", "_law_can", "_law_told_so", "_law_store_here"]
theorem sc__law_row : FnScope N__law_row ["_law_state", "_law_sorts_here", "_law_many"] (C8.fnScope s__law_row) := C8.fnScope_by (by decide +kernel)
local macro_rules | `(tactic| walk_at "sd") => `(tactic| first | with_reducible rfl | assumption | exact SeqD.t | exact SeqD.l | rfl | omega)
local macro_rules | `(tactic| walk_at "dt") => `(tactic| first | assumption | exact Dt.int _ | exact Dt.bl _ | exact Dt.str _ | exact Dt.non | exact Dt.ex (by assumption) (by assumption))
local macro_rules | `(tactic| walk_at "ev") => `(tactic| first
  | assumption
  | with_reducible apply ed_int
  | with_reducible apply ed_str
  | with_reducible apply ed_bl
  | with_reducible apply ed_non
  | with_reducible apply ead_nil
  | with_reducible exact et_yes
  | with_reducible exact eo_none
  | exact evd_var rfl (by walk_at "dt")
  | ((with_reducible apply td_test); walk_at "ev")
  | ((with_reducible apply td_B); walk_at "ev")
  | ((with_reducible apply et_not); walk_at "ev")
  | ((with_reducible apply et_and); walk_at "ev"; intro _; walk_at "ev")
  | ((with_reducible apply et_or); walk_at "ev"; intro _; walk_at "ev")
  | ((with_reducible apply ead_cons); walk_at "ev"; walk_at "ev")
  | ((with_reducible apply eod_some); walk_at "ev")
  | ((with_reducible apply evd_tup); walk_at "ev"; first | decide | (focus (simp; done)) | omega)
  | ((with_reducible apply evd_lst); walk_at "ev"; first | decide | (focus (simp; done)) | omega)
  | ((with_reducible apply ed_not); walk_at "ev")
  | ((with_reducible apply ed_and); walk_at "ev"; intro _; walk_at "ev")
  | ((with_reducible apply ed_or); walk_at "ev"; intro _; walk_at "ev")
  | ((with_reducible apply ed_i0); walk_at "ev"; walk_at "ev")
  | ((with_reducible apply ed_b0); walk_at "ev"; walk_at "ev")
  | ((with_reducible apply ed_eqI); walk_at "ev"; walk_at "ev")
  | ((with_reducible apply ed_eqS); walk_at "ev"; walk_at "ev")
  | ((with_reducible apply ed_eqB); walk_at "ev"; walk_at "ev")
  | ((with_reducible apply ed_neI); walk_at "ev"; walk_at "ev")
  | ((with_reducible apply ed_neS); walk_at "ev"; walk_at "ev")
  | ((with_reducible apply ed_neB); walk_at "ev"; walk_at "ev")
  | ((with_reducible apply ed_isN); walk_at "ev"; walk_at "ev")
  | ((with_reducible apply ed_notN); walk_at "ev"; walk_at "ev")
  | ((with_reducible apply ed_chain); walk_at "ev"; walk_at "ev"; walk_at "ev")
  | ((with_reducible apply ed_ixT); walk_at "ev"; walk_at "ev"; walk_at "sd")
  | ((with_reducible apply ed_ixL); walk_at "ev"; walk_at "ev"; walk_at "sd")
  | ((with_reducible apply ed_isi); walk_at "ev"; (first | exact kit_int _ | exact kit_bool _ | exact kit_tuple _ | exact kit_str _))
  | ((with_reducible apply ed_len); walk_at "ev"; walk_at "sd")
  | ((with_reducible apply ed_call); walk_at "ev"; (first | assumption | exact ⟨_, rfl, rfl⟩ | exact ⟨_, _, rfl, rfl⟩ | exact ⟨_, _, _, rfl, rfl⟩); exact rfl)
  | ((with_reducible apply ed_max2); walk_at "ev"; walk_at "ev")
  | ((with_reducible apply ed_min2); walk_at "ev"; walk_at "ev")
  | ((with_reducible apply ed_list); walk_at "ev"; walk_at "sd")
  | ((with_reducible apply ed_tuple); walk_at "ev"; walk_at "sd")
  | ((with_reducible apply ed_neg); walk_at "ev"))

section
variable {K : PySem.W.Frag} {σ : L2.St} {H H' : Hp} {tl ta tb tc : TE}
/-- the sort of data -/
def srtOf : PyData → Srt
  | .tuple [_, .int n] => .room n
  | .str x => if x = "cell" then .cell else if x = "queue" then .queue else if x = "stack" then .stack else if x = "heads" then .heads else if x = "counter" then .counter else if x = "tickets" then .tickets else .set
  | _ => .cell
theorem srtOf_data (s : Srt) : srtOf s.data = s := by cases s <;> first | rfl | decide
theorem par3_go {i j l : Nat} {tz : TS} {D : Ends} (h : ta σ H fun x H1 => tb σ H1 fun y H2 => tc σ H2 fun z H3 => ∃ u v w, [x, y, z] = [u, v, w] ∧ tz D (((σ.set i (some u)).set j (some v)).set l (some w)) H3) : tSeq (tPar3 i j l (tCons ta (tCons tb (tCons tc tNil)))) tz D σ H := h
theorem nodup_at {α : Type} {l : List α} {i j : Nat} {x : α} (nd : l.Nodup) (h1 : l[i]? = some x) (h2 : l[j]? = some x) : i = j := by
  obtain ⟨l1, q1⟩ := List.getElem?_eq_some_iff.mp h1
  obtain ⟨l2, q2⟩ := List.getElem?_eq_some_iff.mp h2
  have p := List.pairwise_iff_getElem.mp nd
  rcases Nat.lt_trichotomy i j with h | h | h
  · exact absurd (q1.trans q2.symm) (p i j l1 l2 h)
  · exact h
  · exact absurd (q2.trans q1.symm) (p j i l2 l1 h)
theorem list_set_same {α : Type} {l : List α} {i : Nat} {x : α} (h : l[i]? = some x) : l.set i x = l := by
  obtain ⟨hi, e⟩ := List.getElem?_eq_some_iff.mp h
  rw [← e]
  exact List.set_getElem_self hi
theorem wipe_set {j : Nat} {x : V} : wipe ((wipe σ [j]).set j (some x)) [j] = wipe σ [j] := wipe1
/-- [[] for .. in t]: lists all different -/
theorem used_go {j : Nat} {ds : List PyData} {Q : VK} (h : EvD K tl σ H (.tuple ds)) (hz : ds.length ≤ 40000)
    (k : ∀ P2 ps H2, H P2 = none → (∀ p ∈ ps, H p = none ∧ H2 p = some (.lst [])) → (P2 :: ps).Nodup → ps.length = ds.length → Ex H H2 → H2 P2 = some (.lst (ps.map V.ref)) → Q (.ref P2) H2) :
    tLc (iTup K tl) (gName j) tYes (tLst tNil) [j] σ H Q := h.go fun v H1 e1 hv => by
  obtain ⟨a, xs, rfl, hs, hd⟩ := hv.toTup
  refine ⟨a, rfl, ⟨xs, hs⟩, fun Dl hD => ?_⟩
  refine lc_tup (xs := xs) (fun i H' => Ex H1 H' ∧ ∃ ps : List Addr, H' Dl = some (.lst (ps.map V.ref)) ∧ ps.length = i ∧ (Dl :: ps).Nodup ∧ ∀ p ∈ ps, H1 p = none ∧ H' p = some (.lst [])) ⟨Ex.new hD, [], upd_same, rfl, by simp, fun p hp => absurd hp List.not_mem_nil⟩ (fun i H' _ q => ex_t q.1 hs) (fun i x H' hi q => ?_) fun H' q => ?_
  · obtain ⟨eH, ps, hps, hl, nd, hp⟩ := q
    have hlt : i < ds.length := by
      rw [← hd.len]
      exact (List.getElem?_eq_some_iff.mp hi).1
    refine ⟨wipe1, by decide, fun p hpn => ⟨ps.map V.ref, Ex.new hpn _ _ hps, sz_lt (by rw [List.length_map]; omega), Ex.mut (eH.trans (Ex.new hpn)) hD, ps ++ [p], ?_, by rw [List.length_append, hl]; rfl, ?_, fun q hq => ?_⟩⟩
    · rw [upd_same, List.map_append]
      rfl
    · have n1 : p ≠ Dl := by
        rintro rfl
        rw [hpn] at hps
        cases hps
      have n2 : p ∉ ps := fun hm => by
        have := (hp p hm).2
        rw [hpn] at this
        cases this
      rw [← List.cons_append, List.nodup_append]
      refine ⟨nd, List.nodup_cons.mpr ⟨List.not_mem_nil, List.nodup_nil⟩, fun x hx y hy e => ?_⟩
      obtain rfl := List.mem_singleton.mp hy
      subst e
      rcases List.mem_cons.mp hx with hx | hx
      · exact n1 hx
      · exact n2 hx
    · have nDl : q ≠ Dl := by
        rintro rfl
        rcases List.mem_append.mp hq with hq | hq
        · exact (List.nodup_cons.mp nd).1 hq
        · obtain rfl := List.mem_singleton.mp hq
          rw [hpn] at hps
          cases hps
      rcases List.mem_append.mp hq with hq | hq
      · refine ⟨(hp q hq).1, ?_⟩
        rw [upd_ne nDl]
        exact Ex.new hpn _ _ (hp q hq).2
      · obtain rfl := List.mem_singleton.mp hq
        refine ⟨fresh_back eH hpn, ?_⟩
        rw [upd_ne nDl, upd_same]
  · obtain ⟨eH, ps, hps, hl, nd, hp⟩ := q
    exact k Dl ps H' (fresh_back e1 hD) (fun p hm => ⟨fresh_back e1 (hp p hm).1, (hp p hm).2⟩) nd (by rw [hl, hd.len]) (e1.trans eH) hps
theorem dtall_upd {p : Addr} {acc : List V} {o : HO} {vs : List V} {ds : List PyData} (n : noL.noLs ds = true) (hD : H p = some (.lst acc)) (h : DtAll K No H vs ds) : DtAll K No (upd H p o) vs ds := ((h.any n : DtAll K (fun b => b = p) H vs ds).ke (kp_lst hD)).no
theorem dt_upd {p : Addr} {acc : List V} {o : HO} {v : V} {d : PyData} (n : noL d = true) (hD : H p = some (.lst acc)) (h : Dt K No H v d) : Dt K No (upd H p o) v d := ((h.any n : Dt K (fun b => b = p) H v d).ke (kp_lst hD)).no
theorem dtall_kp {B : Addr → Prop} {vs : List V} {ds : List PyData} (n : noL.noLs ds = true) (x : Kp B H H') (h : DtAll K No H vs ds) : DtAll K No H' vs ds := ((h.any n : DtAll K B H vs ds).ke x).no
/-- the lists of the rows, in the heap -/
structure RowH (K : PySem.W.Frag) (z : Sp3) (H0 : Hp) (P1 P2 P3 : Addr) (ps : List Addr) (sts : List PyData) (uss : List (List Int)) (rs : List Rt) (H : Hp) : Prop where
  h1 : ∃ vs, H P1 = some (.lst vs) ∧ DtAll K No H vs sts
  n1 : noL.noLs sts = true
  h2 : H P2 = some (.lst (ps.map V.ref))
  hi : ∀ (k : Nat) (p : Addr) (us : List Int), ps[k]? = some p → uss[k]? = some us → H p = some (.lst (us.map V.int))
  h3 : ∃ vs, H P3 = some (.lst vs) ∧ DtAll K No H vs (rs.map Rt.data)
  n3 : noL.noLs (rs.map Rt.data) = true
  pl : ps.length = uss.length
  nd : (P1 :: P2 :: P3 :: ps).Nodup
  nb : ∀ p ∈ P1 :: P2 :: P3 :: ps, ¬ z.bar p ∧ p ≠ z.C ∧ H0 p = none
  kp : Kp z.bar H0 H
theorem noLs_app {ds es : List PyData} (h1 : noL.noLs ds = true) (h2 : noL.noLs es = true) : noL.noLs (ds ++ es) = true := by
  induction ds with
  | nil => exact h2
  | cons d r ih =>
    have h : noL d = true ∧ noL.noLs r = true := Bool.and_eq_true_iff.mp h1
    exact Bool.and_eq_true_iff.mpr ⟨h.1, ih h.2⟩
theorem noLs_set {ds : List PyData} {i : Nat} {d : PyData} (h : noL.noLs ds = true) (hd : noL d = true) : noL.noLs (ds.set i d) = true := by
  induction ds generalizing i with
  | nil => exact h
  | cons x r ih =>
    have h : noL x = true ∧ noL.noLs r = true := Bool.and_eq_true_iff.mp h
    cases i with
    | zero => exact Bool.and_eq_true_iff.mpr ⟨hd, h.2⟩
    | succ i => exact Bool.and_eq_true_iff.mpr ⟨h.1, ih h.2⟩
theorem Kp.mutp {B : Addr → Prop} {H0 : Hp} {p : Addr} {o : HO} (x : Kp B H0 H) (h : H0 p = none) : Kp B H0 (upd H p o) := by
  refine ⟨fun b o nb hb => ?_, fun b xs hb => ?_, fun b hb => ?_, fun b o u hb => ?_⟩
  · rw [upd_ne (ne_of_none hb h)]
    exact x.k b o nb hb
  · rw [upd_ne (ne_of_none hb h)]
    exact x.t b xs hb
  · rw [upd_ne (ne_of_none hb h)]
    exact x.e b hb
  · rw [upd_ne (ne_of_none hb h)]
    exact x.z b o u hb
theorem SW.mutp {z : Sp3} {p : Addr} {o : HO} {j : Nat} (s : SW z H j) (h1 : ¬ z.bar p) (h2 : p ≠ z.C) : SW z (upd H p o) j := by
  obtain ⟨cs, ls, at_, a, b, c, h⟩ := s.ex
  have n1 : z.S ≠ p := fun e => h1 (.inl e.symm)
  have n2 : z.L ≠ p := fun e => h1 (.inr e.symm)
  refine ⟨⟨cs, ls, at_, ?_, ?_, ?_, h⟩, s.ne⟩
  · rw [upd_ne n1]
    exact a
  · rw [upd_ne (Ne.symm h2)]
    exact b
  · rw [upd_ne n2]
    exact c
section
variable {z : Sp3} {H0 : Hp} {P1 P2 P3 : Addr} {ps : List Addr} {sts : List PyData} {uss : List (List Int)} {rs : List Rt}
theorem RowH.kp' (R : RowH K z H0 P1 P2 P3 ps sts uss rs H) (x : Kp z.bar H H') : RowH K z H0 P1 P2 P3 ps sts uss rs H' := by
  have nb := fun p hp => (R.nb p hp).1
  obtain ⟨v1, a1, b1⟩ := R.h1
  obtain ⟨v3, a3, b3⟩ := R.h3
  refine ⟨⟨v1, x.k _ _ (nb P1 (by simp)) a1, dtall_kp R.n1 x b1⟩, R.n1, x.k _ _ (nb P2 (by simp)) R.h2, fun k p us h1 h2 => x.k _ _ (nb p (by simp [List.mem_of_getElem? h1])) (R.hi k p us h1 h2), ⟨v3, x.k _ _ (nb P3 (by simp)) a3, dtall_kp R.n3 x b3⟩, R.n3, R.pl, R.nd, R.nb, R.kp.trans x⟩
theorem RowH.set1 (R : RowH K z H0 P1 P2 P3 ps sts uss rs H) {k : Nat} {v : V} {d : PyData} {vs : List V} (hv : Dt K No H v d) (n : noL d = true) (h : H P1 = some (.lst vs)) : RowH K z H0 P1 P2 P3 ps (sts.set k d) uss rs (upd H P1 (.lst (vs.set k v))) := by
  obtain ⟨v1, a1, b1⟩ := R.h1
  rw [h] at a1
  injection a1 with a1
  injection a1 with a1
  subst a1
  obtain ⟨v3, a3, b3⟩ := R.h3
  have nd := R.nd
  simp only [List.nodup_cons, List.mem_cons, not_or] at nd
  obtain ⟨⟨n12, n13, n1p⟩, _⟩ := nd
  refine ⟨⟨_, upd_same, dtall_upd (noLs_set R.n1 n) h (DtAll.set hv k b1)⟩, noLs_set R.n1 n, ?_, fun k p us h1 h2 => ?_, ⟨v3, ?_, dtall_upd R.n3 h b3⟩, R.n3, R.pl, R.nd, R.nb, R.kp.mutp (R.nb P1 (by simp)).2.2⟩
  · rw [upd_ne (Ne.symm n12)]
    exact R.h2
  · rw [upd_ne (fun e => n1p (by rw [← e]; exact List.mem_of_getElem? h1))]
    exact R.hi k p us h1 h2
  · rw [upd_ne (Ne.symm n13)]
    exact a3
theorem RowH.app3 (R : RowH K z H0 P1 P2 P3 ps sts uss rs H) {r : Rt} {v : V} {vs : List V} (hv : Dt K No H v r.data) (n : noL r.data = true) (h : H P3 = some (.lst vs)) : RowH K z H0 P1 P2 P3 ps sts uss (rs ++ [r]) (upd H P3 (.lst (vs ++ [v]))) := by
  obtain ⟨v1, a1, b1⟩ := R.h1
  obtain ⟨v3, a3, b3⟩ := R.h3
  rw [h] at a3
  injection a3 with a3
  injection a3 with a3
  subst a3
  have nd := R.nd
  simp only [List.nodup_cons, List.mem_cons, not_or] at nd
  obtain ⟨⟨n12, n13, n1p⟩, ⟨n23, n2p⟩, n3p, _⟩ := nd
  have nn : noL.noLs ((rs ++ [r]).map Rt.data) = true := by
    rw [List.map_append]
    exact noLs_app R.n3 (Bool.and_eq_true_iff.mpr ⟨n, rfl⟩)
  refine ⟨⟨v1, ?_, dtall_upd R.n1 h b1⟩, R.n1, ?_, fun k p us h1 h2 => ?_, ⟨_, upd_same, dtall_upd nn h ?_⟩, nn, R.pl, R.nd, R.nb, R.kp.mutp (R.nb P3 (by simp)).2.2⟩
  · rw [upd_ne n13]
    exact a1
  · rw [upd_ne n23]
    exact R.h2
  · rw [upd_ne (fun e => n3p (by rw [← e]; exact List.mem_of_getElem? h1))]
    exact R.hi k p us h1 h2
  · rw [List.map_append]
    exact b3.app (.cons hv .nil)
theorem RowH.appU (R : RowH K z H0 P1 P2 P3 ps sts uss rs H) {k : Nat} {p : Addr} {us : List Int} {i : Int} (hp : ps[k]? = some p) (hu : uss[k]? = some us) : RowH K z H0 P1 P2 P3 ps sts (uss.set k (us ++ [i])) rs (upd H p (.lst (us.map V.int ++ [.int i]))) := by
  obtain ⟨v1, a1, b1⟩ := R.h1
  obtain ⟨v3, a3, b3⟩ := R.h3
  have hm : p ∈ ps := List.mem_of_getElem? hp
  have h := R.hi k p us hp hu
  have nd := R.nd
  simp only [List.nodup_cons, List.mem_cons, not_or] at nd
  obtain ⟨⟨n12, n13, n1p⟩, ⟨n23, n2p⟩, n3p, ndp⟩ := nd
  have ne : ∀ {x : Addr}, x ∉ ps → x ≠ p := fun hx e => hx (by rw [e]; exact hm)
  refine ⟨⟨v1, by rw [upd_ne (ne n1p)]; exact a1, dtall_upd R.n1 h b1⟩, R.n1, by rw [upd_ne (ne n2p)]; exact R.h2, fun k' p' us' h1 h2 => ?_, ⟨v3, by rw [upd_ne (ne n3p)]; exact a3, dtall_upd R.n3 h b3⟩, R.n3, by rw [List.length_set]; exact R.pl, R.nd, R.nb, R.kp.mutp (R.nb p (by simp [hm])).2.2⟩
  by_cases e : k' = k
  · subst e
    have ku : k' < uss.length := (List.getElem?_eq_some_iff.mp hu).1
    rw [hp] at h1
    obtain rfl := Option.some.inj h1
    rw [List.getElem?_set_self ku] at h2
    obtain rfl := Option.some.inj h2
    rw [upd_same, List.map_append]
    rfl
  · rw [List.getElem?_set_ne (Ne.symm e)] at h2
    have e2 : p' ≠ p := fun e2 => by
      subst e2
      exact e (nodup_at ndp h1 hp)
    rw [upd_ne e2]
    exact R.hi k' p' us' h1 h2
end
end
section
variable {K : PySem.W.Frag} {σ : L2.St} {H H' : Hp} {tl ta tb tc te : TE}
theorem callA_go {sp : Sp} {ar : TA} {vs : List V} {Q : VK} {E : XK} (h : EvA ar σ H vs) (k : ∀ H1, Ex H H1 → sp vs H1 Q E) : tCall sp [] E ar σ H Q := h H (Ex.refl H) _ fun H1 e => by
  rw [List.append_nil]
  exact k H1 e
theorem asgT_go {g : TG} {tz : TS} {D : Ends} (h : te σ H fun x H1 => g x σ H1 fun σ2 H2 => tz D σ2 H2) : tSeq (tAsg te g) tz D σ H := h
theorem unp2_go {i j : Nat} {v : V} {d1 d2 : PyData} {R : L2.St → Hp → Prop} (hv : Dt K No H v (.tuple [d1, d2])) (k : ∀ v1 v2, Dt K No H v1 d1 → Dt K No H v2 d2 → R ((σ.set i (some v1)).set j (some v2)) H) : gTup K 2 (gCons (gName i) (gCons (gName j) gNil)) v σ H R := by
  obtain ⟨p, xs, rfl, hs, hd⟩ := hv.toTup
  obtain ⟨v1, v2, rfl, h1, h2⟩ := hd.two
  exact ⟨p, _, rfl, hs, rfl, v1, _, rfl, v2, _, rfl, rfl, k v1 v2 h1 h2⟩
theorem unp3_go {i j l : Nat} {v : V} {d1 d2 d3 : PyData} {R : L2.St → Hp → Prop} (hv : Dt K No H v (.tuple [d1, d2, d3])) (k : ∀ v1 v2 v3, Dt K No H v1 d1 → Dt K No H v2 d2 → Dt K No H v3 d3 → R (((σ.set i (some v1)).set j (some v2)).set l (some v3)) H) : gTup K 3 (gCons (gName i) (gCons (gName j) (gCons (gName l) gNil))) v σ H R := by
  obtain ⟨p, xs, rfl, hs, hd⟩ := hv.toTup
  obtain ⟨v1, v2, v3, rfl, h1, h2, h3⟩ := hd.three
  exact ⟨p, _, rfl, hs, rfl, v1, _, rfl, v2, _, rfl, v3, _, rfl, rfl, k v1 v2 v3 h1 h2 h3⟩
theorem StF.noL {s : Srt} {st : PyData} {us : List Int} {N : Nat} (h : StF s st us N) : SB.noL st = true := by
  cases s <;> first | (rcases h with rfl | ⟨i, rfl, _⟩ <;> rfl) | (obtain ⟨i, rfl, _⟩ := h; rfl) | (obtain ⟨ns, rfl, _⟩ := h; exact noLs_ints ns)
theorem StF.stT {s : Srt} {st : PyData} {us : List Int} {N : Nat} (h : StF s st us N) : StT s st := by
  cases s <;> first | (rcases h with rfl | ⟨i, rfl, _⟩ <;> first | exact .inl rfl | exact .inr ⟨_, rfl⟩) | (obtain ⟨i, rfl, _⟩ := h; exact ⟨_, rfl⟩)
theorem StF.len {s : Srt} {ns us : List Int} {N : Nat} (h : StF s (tupI ns) us N) : ns.length ≤ N := by
  cases s <;> first | (obtain ⟨ms, e, _, hl⟩ := h; obtain rfl := tupI_inj e; exact hl) | (obtain ⟨i, e, _⟩ := h; cases e) | (rcases h with e | ⟨i, e, _⟩ <;> cases e)
end
section
variable {P : Program} {w : World} {K : PySem.W.Frag} {mg : Str → Option Value} {base : Heap} {A0 : Ad}
def rowSt (z : Sp3) (sv : V) (n : Nat) (P1 P2 P3 : Addr) (o7 o8 o9 o10 o11 o12 o13 : Option V) : L2.St := [some (.ref z.S), some sv, some (.int (n : Int)), some (.ref P1), some (.ref P2), some (.ref P3), none, o7, o8, o9, o10, o11, o12, o13]
def spRow (K : PySem.W.Frag) (z : Sp3) : Sp := fun vs H Q _ => ∃ sv ss n j, vs = [.ref z.S, sv, .int ((n : Nat) : Int)] ∧ Dt K No H sv (dSorts ss) ∧ 0 < ss.length ∧ ss.length ≤ 1000 ∧ (∀ s ∈ ss, Srt.ok s) ∧ n ≤ 10 ∧ SW z H (j + 3 * n) ∧
  ∀ v H' rs sts uss, Kp z.bar H H' → SW z H' j → RowsF ss sts uss rs n → rs.length = n → noL.noLs (rs.map Rt.data) = true → Dt K z.bar H' v (.list (rs.map Rt.data)) → Q v H'
theorem c__law_row (T : Tx A0 K w mg) (z : Sp3) : C8.Cal P w K mg base 5 "_law_row" (spRow K z) [] := by
  have c__law_draw := c__law_draw (P := P) (base := base) T z
  have c__law_word := c__law_word (P := P) (base := base) T z
  have c__law_do := c__law_do (P := P) (base := base) T
  have c__law_store := c__law_store (P := P) (base := base) T
  refine cal_of T.d__law_row sc__law_row (fun vs H Q E h => by obtain ⟨sv, ss, n, j, rfl, _⟩ := h; rfl) (fun f cdv A outer s H vs Q E hr h => ?_)
  obtain ⟨sv, ss, n, j, rfl, hsv, hs0, hs1, hok, hn, sw, k⟩ := h
  refine ⟨_, (pss_cons (ps_par3 (i := 3) (j := 4) (l := 5) (by rfl) sc__law_row.nd rfl rfl rfl (by decide) (by decide) (by decide) rfl rfl rfl (pa_cons (pe_lc (own := [("_law_sort", 6)]) (by rfl) sc__law_row.nd (pi_tup (pv 1)) (blkOk_by (N := N__law_row) (sc := (C8.fnScope s__law_row)) (by decide +kernel)) (fun _ _ _ _ _ => (pg_name (i := 6) sc__law_row.nd rfl (by first | exact Or.inl rfl | exact Or.inr rfl))) (fun _ _ _ _ _ => pts_nil) (fun _ _ _ _ _ => (C8.pe_c c__law_store hr (by decide) (by rfl) (pa_cons (pv 6) pa_nil)))) (pa_cons (pe_lc (own := [("_law_sort", 6)]) (by rfl) sc__law_row.nd (pi_tup (pv 1)) (blkOk_by (N := N__law_row) (sc := (C8.fnScope s__law_row)) (by decide +kernel)) (fun _ _ _ _ _ => (pg_name (i := 6) sc__law_row.nd rfl (by first | exact Or.inl rfl | exact Or.inr rfl))) (fun _ _ _ _ _ => pts_nil) (fun _ _ _ _ _ => (pe_lst pa_nil))) (pa_cons (pe_lst pa_nil) pa_nil))) (by rfl))
        (pss_cons (ps_for PassesOwn.never rfl (pi_range1 (by rfl) T.range (pa_cons (pv 2) pa_nil)) (pg_name (i := 7) sc__law_row.nd rfl (by first | exact Or.inl rfl | exact Or.inr rfl)) (pss_cons (ps_set (i := 8) sc__law_row.nd rfl (by first | exact Or.inl rfl | exact Or.inr rfl) (C8.pe_c c__law_draw hr (by decide) (by rfl) (pa_cons (pv 0) (pa_cons (pe_callB call_len_seq (by rfl) T.len (by decide +kernel) (pa_cons (pv 1) pa_nil)) pa_nil))))
          (pss_cons (ps_asg (C8.pe_c c__law_word hr (by decide) (by rfl) (pa_cons (pv 0) (pa_cons (pe_ix ix_tup (pv 1) (pv 8) (fun _ _ => rfl)) (pa_cons (pe_ix ix_list (pv 3) (pv 8) (fun _ _ => rfl)) (pa_cons (pe_ix ix_list (pv 4) (pv 8) (fun _ _ => rfl)) pa_nil))))) (pg_tup rfl (pgs_cons (pg_name (i := 9) sc__law_row.nd rfl (by first | exact Or.inl rfl | exact Or.inr rfl)) (pgs_cons (pg_name (i := 10) sc__law_row.nd rfl (by first | exact Or.inl rfl | exact Or.inr rfl)) pgs_nil))))
          (pss_cons (ps_asg (C8.pe_c c__law_do hr (by decide) (by rfl) (pa_cons (pe_ix ix_tup (pv 1) (pv 8) (fun _ _ => rfl)) (pa_cons (pe_ix ix_list (pv 3) (pv 8) (fun _ _ => rfl)) (pa_cons (pv 9) (pa_cons (pv 10) pa_nil))))) (pg_tup rfl (pgs_cons (pg_name (i := 11) sc__law_row.nd rfl (by first | exact Or.inl rfl | exact Or.inr rfl)) (pgs_cons (pg_name (i := 12) sc__law_row.nd rfl (by first | exact Or.inl rfl | exact Or.inr rfl)) (pgs_cons (pg_name (i := 13) sc__law_row.nd rfl (by first | exact Or.inl rfl | exact Or.inr rfl)) pgs_nil)))))
          (pss_cons (ps_asg (pv 13) (pg_sub (pv 3) (pv 8) set_list))
          (pss_cons (ps_if (pt_cmpR op_in_seq (pv 9) (pe_tup (pa_cons pe_str (pa_cons pe_str (pa_cons pe_str (pa_cons pe_str pa_nil))))) (by rfl)) (pss_one (ps_expr (pe_bm PySem.F.plainAttrs_list PySem.F.slot_list_append PySem.F.type_list_append mt_append (pe_ix ix_list (pv 4) (pv 8) (fun _ _ => rfl)) (pa_cons (pv 10) pa_nil)))) pss_nil)
          (pss_one (ps_expr (pe_bm PySem.F.plainAttrs_list PySem.F.slot_list_append PySem.F.type_list_append mt_append (pv 5) (pa_cons (pe_tup (pa_cons (pv 8) (pa_cons (pv 9) (pa_cons (pv 10) (pa_cons (pv 12) pa_nil))))) pa_nil))))))))))
        (pss_one (ps_ret (pv 5))))), ?_⟩
  try simp only [cxK, cxK2, List.map_cons, List.map_nil]
  have hsv' : Dt K No H sv (.tuple (ss.map Srt.data)) := hsv
  have nsv : noL (dSorts ss) = true := noLs_of fun x hx => by
    obtain ⟨s, _, rfl⟩ := List.mem_map.mp hx
    cases s <;> rfl
  -- the lists
  refine par3_go ((evn_is (lcT_map (K := K) (tl := tVar 1) (te := tCall (spStore K) [] C8.E0 (tCons (tVar 6) tNil)) (j := 6) (fun d => store0 (srtOf d)) (evd_var rfl hsv') (by rw [List.length_map]; omega) (fun d hd => ?_) fun d hd x H1 e hx => ?_) (es := ss.map store0) ?_).go fun P1 v1 H1 hP1 e1 h1 hv1 => ?_)
  · obtain ⟨s, _, rfl⟩ := List.mem_map.mp hd
    rw [srtOf_data]
    cases s <;> rfl
  · obtain ⟨s, _, rfl⟩ := List.mem_map.mp hd
    rw [srtOf_data]
    exact ed_call (ead_cons (evd_var rfl hx) ead_nil) ⟨s, rfl, rfl⟩ rfl
  · rw [List.map_map]
    exact List.map_congr_left fun s _ => by
      show store0 (srtOf s.data) = _
      rw [srtOf_data]
  refine used_go (K := K) (evd_var rfl (hsv'.ex e1)) (by rw [List.length_map]; omega) fun P2 ps H2 hP2 hps nd2 pl e2 h2 => ?_
  refine (evn_lst (K := K) (ds := []) ead_nil (by show 0 ≤ 100000; decide)).go fun P3 v3 H3 hP3 e3 h3 hv3 => ⟨_, _, _, rfl, ?_⟩
  cases hv3
  rw [List.length_map] at pl
  have nst : noL.noLs (ss.map store0) = true := noLs_of fun x hx => by
    obtain ⟨s, _, rfl⟩ := List.mem_map.mp hx
    cases s <;> rfl
  obtain ⟨cs0, ls0, at0, hS0, hC0, hL0, _⟩ := sw.ex
  have e03 := (e1.trans e2).trans e3
  have h1' : H2 P1 = some (.lst v1) := e2 _ _ h1
  have R0 : RowH K z H P1 P2 P3 ps (ss.map store0) (ss.map fun _ => []) [] H3 := by
    have f0 : ∀ p ∈ P1 :: P2 :: P3 :: ps, H p = none := fun p hp => by
      rcases List.mem_cons.mp hp with rfl | hp
      · exact hP1
      · rcases List.mem_cons.mp hp with rfl | hp
        · exact fresh_back e1 hP2
        · rcases List.mem_cons.mp hp with rfl | hp
          · exact fresh_back (e1.trans e2) hP3
          · exact fresh_back e1 (hps p hp).1
    refine ⟨⟨v1, e3 _ _ h1', hv1.ex (e2.trans e3)⟩, nst, e3 _ _ h2, fun i p us a b => ?_, ⟨[], h3, .nil⟩, rfl, by rw [List.length_map, pl], ?_, fun p hp => ⟨fun hb => ?_, fun e => ?_, f0 p hp⟩, Kp.of e03⟩
    · rw [List.getElem?_map] at b
      obtain ⟨s, _, rfl⟩ := Option.map_eq_some_iff.mp b
      exact e3 _ _ (hps p (List.mem_of_getElem? a)).2
    · have n12 : P1 ≠ P2 := fun e => by
        rw [← e, h1] at hP2
        cases hP2
      have n1p : P1 ∉ ps := fun hm => by
        have := (hps P1 hm).1
        rw [h1] at this
        cases this
      have n13 : P1 ≠ P3 := fun e => by
        rw [← e, h1'] at hP3
        cases hP3
      have n23 : P2 ≠ P3 := fun e => by
        rw [← e, h2] at hP3
        cases hP3
      have n3p : P3 ∉ ps := fun hm => by
        have := (hps P3 hm).2
        rw [hP3] at this
        cases this
      have nd2' := List.nodup_cons.mp nd2
      simp only [List.nodup_cons, List.mem_cons, not_or]
      exact ⟨⟨n12, n13, n1p⟩, ⟨n23, nd2'.1⟩, n3p, nd2'.2⟩
    · have := f0 p hp
      rcases hb with rfl | rfl
      · rw [hS0] at this
        cases this
      · rw [hL0] at this
        cases this
    · have := f0 p hp
      rw [e, hC0] at this
      cases this
  refine q_forR1 (n := (n : Int)) (ea_cons (ev_var rfl) ea_nil) (by omega) (fun i σ' H' => (∃ o7 o8 o9 o10 o11 o12 o13, σ' = rowSt z sv n P1 P2 P3 o7 o8 o9 o10 o11 o12 o13) ∧ ∃ sts uss rs, RowsF ss sts uss rs i ∧ rs.length = i ∧ RowH K z H P1 P2 P3 ps sts uss rs H' ∧ SW z H' (j + 3 * (n - i)))
    (fun H4 e4 => ⟨⟨_, _, _, _, _, _, _, rfl⟩, _, _, _, rows0 ss, rfl, R0.kp' (Kp.of e4), (sw.mono e03).mono e4⟩) (fun i σ' H' hi q => ?_) fun σ' H' q => ?_
  · obtain ⟨⟨o7, o8, o9, o10, o11, o12, o13, rfl⟩, sts, uss, rs, RF, hl, R, sw'⟩ := q
    have hi' : i < n := by omega
    have esw : j + 3 * (n - i) = (j + 3 * (n - (i + 1)) + 2) + 1 := by omega
    rw [esw] at sw'
    have hsvH : Dt K No H' sv (.tuple (ss.map Srt.data)) := kp_noL hsv nsv R.kp
    refine asg_go (draw_go (K := K) (j := j + 3 * (n - (i + 1)) + 2) (m := (ss.length : Int)) rfl sw' (evd_is (ed_len (evd_var rfl hsvH) .t) (by rw [List.length_map])) (by omega) (by omega) fun r H4 r0 r1 kp4 sw4 => ?_)
    obtain ⟨q, rfl⟩ : ∃ q : Nat, r = (q : Int) := ⟨r.toNat, by omega⟩
    have hq : q < ss.length := by omega
    have R4 := R.kp' kp4
    obtain ⟨s, hs⟩ : ∃ s, ss[q]? = some s := ⟨ss[q], by simp [hq]⟩
    obtain ⟨st, hst⟩ : ∃ s, sts[q]? = some s := ⟨sts[q]'(by rw [RF.l1]; exact hq), by simp [RF.l1, hq]⟩
    obtain ⟨us, hus⟩ : ∃ s, uss[q]? = some s := ⟨uss[q]'(by rw [RF.l2]; exact hq), by simp [RF.l2, hq]⟩
    obtain ⟨p, hp⟩ : ∃ p, ps[q]? = some p := ⟨ps[q]'(by rw [R.pl, RF.l2]; exact hq), by simp [R.pl, RF.l2, hq]⟩
    obtain ⟨SF, ul⟩ := RF.sf q s st us hs hst hus
    have hsv4 : Dt K No H4 sv (.tuple (ss.map Srt.data)) := kp_noL hsv nsv R4.kp
    obtain ⟨a, xs, rfl, ha, hax⟩ := hsv4.toTup
    obtain ⟨vs, hvs, hsd⟩ := hax.at (i := q) (d := s.data) (by rw [List.getElem?_map, hs]; rfl)
    obtain ⟨v1, hv1, hd1⟩ := R4.h1
    obtain ⟨vst, hvst, hstd⟩ := hd1.at hst
    have hused := R4.hi q p us hp hus
    have evS : ∀ H5, Ex H4 H5 → Ev (tOp (rIxT K) (tVar 1) (tVar 8)) (((rowSt z (.ref a) n P1 P2 P3 o7 o8 o9 o10 o11 o12 o13).set 7 (some (.int (i : Int)))).set 8 (some (.int (q : Int)))) H5 vs := fun H5 e => ev_op (ev_var rfl) (ev_var rfl) (rv_ixT (ex_t e ha) (atI_of rfl hvs))
    refine asgT_go (callA_go (ea_cons (ev_var rfl) (ea_cons (evS H4 (Ex.refl _)) (ea_cons (ev_op (ev_var rfl) (ev_var rfl) (rv_ixL (SqL.of hv1) (atI_of rfl hvst))) (ea_cons (ev_op (ev_var rfl) (ev_var rfl) (rv_ixL (SqL.of R4.h2) (atI_of rfl (by rw [List.getElem?_map, hp]; rfl)))) ea_nil)))) fun H5 e5 => ?_)
    have pb := R4.nb p (by simp [List.mem_of_getElem? hp])
    refine ⟨vs, vst, .ref p, s, st, us, j + 3 * (n - (i + 1)), rfl, hsd.ex e5, hok s (List.mem_of_getElem? hs), hstd.ex e5, SF.stT, fun ns e => by subst e; have := SF.len; omega, .lst (e5 _ _ hused) pb.1 (DtAll.ints us), by omega, sw4.mono e5, fun v H6 wo g kp6 sw6 hw hv => ?_⟩
    refine unp2_go hv fun v9 v10 h9 h10 => ?_
    obtain rfl := h9.toStr
    have R6 := (R4.kp' (Kp.of e5)).kp' kp6
    have hsd6 : Dt K No H6 vs s.data := kp_noL (hsd.ex e5) (by cases s <;> rfl) kp6
    obtain ⟨v1', hv1', hd1'⟩ := R6.h1
    obtain ⟨vst', hvst', hstd'⟩ := hd1'.at hst
    have ha6 : SqT K H6 a xs := kp6.s (ex_t e5 ha)
    refine asgT_go (callA_go (ea_cons (ev_op (ev_var rfl) (ev_var rfl) (rv_ixT ha6 (atI_of rfl hvs))) (ea_cons (ev_op (ev_var rfl) (ev_var rfl) (rv_ixL (SqL.of hv1') (atI_of rfl hvst'))) (ea_cons (ev_var rfl) (ea_cons (ev_var rfl) ea_nil)))) fun H7 e7 => ?_)
    refine ⟨vs, vst', .str wo, v10, s, wo, st, g, rfl, hsd6.ex e7, hstd'.ex e7, .str wo, h10.ex e7, hw.pre, fun ns e => by subst e; have := SF.len; omega, fun v' H8 can t st' e8 hd hv' => ?_⟩
    have S := step (by omega) SF hw hd
    refine unp3_go hv' fun v11 v12 v13 _ h12 h13 => ?_
    have R8 := (R6.kp' (Kp.of e7)).kp' (Kp.of e8)
    have sw8 := (sw6.mono e7).mono e8
    obtain ⟨v1'', hv1'', hd1''⟩ := R8.h1
    have nst' : noL st' = true := S.stf.noL
    have ng : noL g = true := canGive_noL S.gv
    have nt : noL t = true := canTell_noL S.tl
    have h10' := (h10.ex e7).ex e8
    refine q_setL hv1'' (ev_var rfl) (ev_var rfl) (ev_var rfl) (by rw [hd1''.len, RF.l1]; exact hq) fun H9 e9 => ?_
    have hv9 := e9 _ _ hv1''
    have R9 := (R8.kp' (Kp.of e9)).set1 (k := q) (h13.ex e9) nst' hv9
    have h12' := dt_upd (o := .lst (v1''.set q v13)) nt hv9 (h12.ex e9)
    have h10'' := dt_upd (o := .lst (v1''.set q v13)) ng hv9 (h10'.ex e9)
    have P1b := R9.nb P1 (by simp)
    have sw9 := (sw8.mono e9).mutp (o := .lst (v1''.set q v13)) P1b.1 P1b.2.1
    obtain ⟨H10, eH10⟩ : ∃ H10, upd H9 P1 (.lst (v1''.set q v13)) = H10 := ⟨_, rfl⟩
    rw [eH10] at R9 h12' h10'' sw9 ⊢
    -- the end: the row is put down
    have fin : ∀ uss' H11, uss' = uss.set q (usedBy wo g us) → RowH K z H P1 P2 P3 ps (sts.set q st') uss' rs H11 → SW z H11 (j + 3 * (n - (i + 1))) → Dt K No H11 v10 g → Dt K No H11 v12 t →
        tDrop (tBM K "list" rAppend (tVar 5) (tCons (tTup (tCons (tVar 8) (tCons (tVar 9) (tCons (tVar 10) (tCons (tVar 12) tNil))))) tNil)) { ({ nx := fun x H' => Q V.non H', rt := Q } : Ends) with nx := fun σ' H' => (∃ o7 o8 o9 o10 o11 o12 o13, σ' = rowSt z (.ref a) n P1 P2 P3 o7 o8 o9 o10 o11 o12 o13) ∧ ∃ sts uss rs, RowsF ss sts uss rs (i + 1) ∧ rs.length = i + 1 ∧ RowH K z H P1 P2 P3 ps sts uss rs H' ∧ SW z H' (j + 3 * (n - (i + 1))), ct := fun σ' H' => (∃ o7 o8 o9 o10 o11 o12 o13, σ' = rowSt z (.ref a) n P1 P2 P3 o7 o8 o9 o10 o11 o12 o13) ∧ ∃ sts uss rs, RowsF ss sts uss rs (i + 1) ∧ rs.length = i + 1 ∧ RowH K z H P1 P2 P3 ps sts uss rs H' ∧ SW z H' (j + 3 * (n - (i + 1))), bk := tRet (tVar 5) { nx := fun x H' => Q V.non H', rt := Q } } (rowSt z (.ref a) n P1 P2 P3 (some (.int (i : Int))) (some (.int (q : Int))) (some (.str wo)) (some v10) (some v11) (some v12) (some v13)) H11 := fun uss' H11 eu R11 sw11 hg ht => by
      subst eu
      obtain ⟨v3, hv3, hd3⟩ := R11.h3
      have P3b := R11.nb P3 (by simp)
      refine s_appD (K := K) (d := (⟨q, wo, g, t⟩ : Rt).data) hv3 (ev_var rfl) (evd_tup (ead_cons (evd_var rfl (.int _)) (ead_cons (evd_var rfl (.str _)) (ead_cons (evd_var rfl hg) (ead_cons (evd_var rfl ht) ead_nil)))) (by show 4 ≤ 100000; decide)) (by rw [hd3.len, List.length_map]; omega) fun v' H12 e12 hv' => ?_
      refine ⟨⟨_, _, _, _, _, _, _, rfl⟩, _, _, _, RF.step hs hst hus S, by rw [List.length_append, hl]; rfl, (R11.kp' (Kp.of e12)).app3 hv' (by show (noL (.int (q : Int)) && (noL (.str wo) && (noL g && (noL t && true)))) = true; rw [ng, nt]; rfl) (e12 _ _ hv3), (sw11.mono e12).mutp P3b.1 P3b.2.1⟩
    refine q_when (b := decide (wo ∈ GIV4)) (td_test (K := K) (ed_inS (ns := GIV4) (evd_var (d := .str wo) rfl (.str _)) (evd_tup (ead_cons ed_str (ead_cons ed_str (ead_cons ed_str (ead_cons ed_str ead_nil)))) (by show 4 ≤ 100000; decide)))) (fun hb H11 e11 => ?_) fun hb H11 e11 => ?_
    · have hm : wo ∈ GIV4 := of_decide_eq_true hb
      obtain ⟨⟨gi, rfl, g0, g1⟩, gn⟩ := S.g4 hm
      have R11 := R9.kp' (Kp.of e11)
      have hp11 := R11.hi q p us hp hus
      refine s_appD (K := K) hp11 (ev_op (ev_var rfl) (ev_var rfl) (rv_ixL (SqL.of R11.h2) (atI_of rfl (by rw [List.getElem?_map, hp]; rfl)))) (evd_var rfl (h10''.ex e11)) (by rw [List.length_map]; omega) fun v' H12 e12 hv' => ?_
      rw [hv'.toInt]
      have R12 := (R11.kp' (Kp.of e12)).appU (i := gi) hp hus
      have hp12 := e12 _ _ hp11
      refine fin _ _ ?_ R12 (((sw9.mono e11).mono e12).mutp pb.1 pb.2.1) (dt_upd rfl hp12 ((h10''.ex e11).ex e12)) (dt_upd nt hp12 ((h12'.ex e11).ex e12))
      rw [used_yes hb]
    · exact fin _ _ (by rw [used_no hb, list_set_same hus]) (R9.kp' (Kp.of e11)) (sw9.mono e11) (h10''.ex e11) (h12'.ex e11)
  · obtain ⟨⟨o7, o8, o9, o10, o11, o12, o13, rfl⟩, sts, uss, rs, RF, hl, R, sw'⟩ := q
    have e0 : j + 3 * (n - n) = j := by omega
    rw [Int.toNat_natCast] at RF hl sw'
    rw [e0] at sw'
    obtain ⟨v3, hv3, hd3⟩ := R.h3
    have P3b := R.nb P3 (by simp)
    exact ret_go ⟨_, rfl, k _ H' rs sts uss R.kp sw' RF hl R.n3 (.lst hv3 P3b.1 (hd3.any R.n3))⟩
end
end SB
end

section
set_option Elab.async false
set_option linter.all false
set_option maxRecDepth 100000
set_option maxHeartbeats 2000000
set_option autoImplicit false
/-! SbSort: sorted of a list of tuples whose first places are different ints. -/
namespace SB
open PySem PySem.Spec PyProof.Rows L2 Evl
section
open Srt SrtO
variable {prog : Program} {w : World} {A : Around} {E : Value → Shared → Prop} {s : Shared}
/-- the loop over a tuple and itself -/
theorem kat_self {b : Bool} {Q : Bool → Shared → Prop} : ∀ (ps : List Value) (i : Nat), Q false s → PySem.W.KatLex prog w A b false Q (ps.zip ps) i s
  | [], i, h => PySem.W.kat_nil h
  | p :: r, i, h => PySem.W.kat_cons (SeqAt.EqAt.same p prog w _ _ (PySem.W.kat_yes (kat_self r (i + 1) h)))
/-- a tuple with an int ahead -/
def FstAt (h : Heap) (v : Value) (i : Int) : Prop := ∃ (a : Addr) (o : Obj) (xs : Array Value) (n : Nat) (t : Tok), v = .ref a ∧ h.get? a = some o ∧ o.cls = .type "tuple" ∧ o.data = .seq xs n ∧ xs[0]? = some (.int i t)
theorem fst_lt {x y : Value} {i j : Int} (hx : FstAt s.heap x i) (hy : FstAt s.heap y j) (ne : x = y ∨ i ≠ j) {Q : Bool → Shared → Prop} (hq : Q (decide (i < j)) s) : wpAny (model prog w) A (keyLt' (tuples' true) x y) Q E s := by
  obtain ⟨a, o, xs, n, t, rfl, ho, hc, hd, h0⟩ := hx
  obtain ⟨b, o2, ys, m, u, rfl, ho2, hc2, hd2, h02⟩ := hy
  refine PySem.W.kat_lt ho hd ho2 hd2 ?_
  rcases ne with e | ne
  · cases e
    rw [ho] at ho2
    obtain rfl := Option.some.inj ho2
    rw [hd] at hd2
    obtain ⟨rfl, _⟩ := Data.seq.inj hd2
    rw [h0] at h02
    have e2 := Option.some.inj h02
    injection e2 with e2 _
    subst e2
    rw [show decide (xs.size < xs.size) = false from decide_eq_false (Nat.lt_irrefl _)]
    refine kat_self _ _ ?_
    rw [show decide (i < i) = false from decide_eq_false (Int.lt_irrefl _)] at hq
    exact hq
  · obtain ⟨p, r, e1⟩ : ∃ p r, xs.toList = p :: r := by
      cases e : xs.toList with
      | nil =>
        have : xs = #[] := by simpa using e
        rw [this] at h0
        simp at h0
      | cons p r => exact ⟨p, r, rfl⟩
    obtain ⟨p2, r2, e2⟩ : ∃ p r, ys.toList = p :: r := by
      cases e : ys.toList with
      | nil =>
        have : ys = #[] := by simpa using e
        rw [this] at h02
        simp at h02
      | cons p r => exact ⟨p, r, rfl⟩
    have p1 : p = .int i t := by
      have z : xs.toList[0]? = some (.int i t) := by simpa using h0
      rw [e1] at z
      exact Option.some.inj z
    have p2' : p2 = .int j u := by
      have z : ys.toList[0]? = some (.int j u) := by simpa using h02
      rw [e2] at z
      exact Option.some.inj z
    rw [e1, e2, p1, p2']
    refine PySem.W.kat_cons (wpAny_eqBool_int ?_)
    have ef : (i == j) = false := by simpa using ne
    rw [ef]
    show wpAny _ _ _ _ _ _
    exact oneLt_int hq
end
theorem FstAt.fn {h : Heap} {v : Value} {i j : Int} (a : FstAt h v i) (b : FstAt h v j) : i = j := by
  obtain ⟨a, o, xs, n, t, rfl, ho, hc, hd, h0⟩ := a
  obtain ⟨b, o2, ys, m, u, e, ho2, hc2, hd2, h02⟩ := b
  cases e
  rw [ho] at ho2
  obtain rfl := Option.some.inj ho2
  rw [hd] at hd2
  obtain ⟨rfl, _⟩ := Data.seq.inj hd2
  rw [h0] at h02
  have e2 := Option.some.inj h02
  injection e2
open Classical in
noncomputable def fstI (h : Heap) (v : Value) : Int := if c : ∃ i, FstAt h v i then c.choose else 0
theorem fstI_of {h : Heap} {v : Value} {i : Int} (a : FstAt h v i) : fstI h v = i := by
  unfold fstI
  rw [dif_pos ⟨i, a⟩]
  exact FstAt.fn (Exists.choose_spec (⟨i, a⟩ : ∃ i, FstAt h v i)) a
section
variable {X : Cx}
/-- a tuple with an int ahead -/
def FstV (K : PySem.W.Frag) (H : Hp) (x : V) (n : Int) : Prop := ∃ t ys, x = V.ref t ∧ SqT K H t (.int n :: ys)
/-- sorted(xs), tuples with different ints ahead -/
def rSortF (K : PySem.W.Frag) : List V → Hp → VK → Prop := fun vs H Q => ∃ (a : Addr) (xs : List V) (is : List Int), vs = [V.ref a] ∧ SqL K H a xs ∧ xs.length = is.length ∧ (∀ (i : Nat) x n, xs[i]? = some x → is[i]? = some n → FstV K H x n) ∧ is.Nodup ∧
  ∀ (ys : List V) (p : Addr), ys.Perm xs → ys.Pairwise (fun x y => ∀ n m, FstV K H x n → FstV K H y m → n < m) → H p = none → Q (.ref p) (upd H p (.lst ys))
theorem nodup_inj {α β : Type} {f : α → β} : ∀ {l : List α}, (l.map f).Nodup → ∀ x ∈ l, ∀ y ∈ l, f x = f y → x = y
  | [], _, x, hx, _, _, _ => absurd hx List.not_mem_nil
  | a :: r, h, x, hx, y, hy, e => by
    rw [List.map_cons, List.nodup_cons] at h
    rcases List.mem_cons.mp hx with ex | hx' <;> rcases List.mem_cons.mp hy with ey | hy'
    · rw [ex, ey]
    · exact absurd (List.mem_map.mpr ⟨y, hy', by rw [← e, ex]⟩) h.1
    · exact absurd (List.mem_map.mpr ⟨x, hx', by rw [e, ey]⟩) h.1
    · exact nodup_inj h.2 x hx' y hy' e
theorem cr_sortF : CallR X (.builtin "sorted") (rSortF X.K) := by
  intro pins s σ H vs us Q I r h
  obtain ⟨a, xs, is, rfl, hs, hlen, hx, nd, q⟩ := h
  obtain ⟨its, rv, hl, hz⟩ := I.list hs
  rw [Vals.ref1 r]
  have at_ : ∀ {x : V} {n : Int} {v : Value}, FstV X.K H x n → x = bkV v → FstAt s.heap v n := fun {x n v} h e => by
    obtain ⟨t, ys, ex, ht⟩ := h
    rw [ex] at e
    obtain rfl := bkV_ref e.symm
    obtain ⟨its2, rv2, ⟨o, ho, hc, m, hd⟩, _⟩ := I.tuple ht
    cases rv2 with
    | cons r1 r2 =>
      obtain ⟨tk, rfl⟩ := r1
      exact ⟨t, o, _, m, tk, rfl, ho, hc, hd, by simp⟩
  have some_is : ∀ i, i < xs.length → ∃ n, is[i]? = some n := fun i hi => ⟨is[i]'(by rw [← hlen]; exact hi), by simp [← hlen, hi]⟩
  obtain ⟨e1, e2⟩ := bkV_refs rv fun x m => by
    obtain ⟨i, hi⟩ := List.getElem?_of_mem m
    obtain ⟨n, hn⟩ := some_is i (List.getElem?_eq_some_iff.mp hi).1
    obtain ⟨t, ys, e, _⟩ := hx i x n hi hn
    exact ⟨t, e⟩
  have len : its.length = xs.length := rv.length.symm
  have fst : ∀ (i : Nat) v, its[i]? = some v → ∃ n, is[i]? = some n ∧ FstAt s.heap v n := fun i v hv => by
    have hxi : xs[i]? = some (bkV v) := by
      rw [e1, List.getElem?_map, hv]
      rfl
    obtain ⟨n, hn⟩ := some_is i (List.getElem?_eq_some_iff.mp hxi).1
    exact ⟨n, hn, at_ (hx i _ n hxi hn) rfl⟩
  have keys : its.map (fstI s.heap) = is := by
    refine List.ext_getElem? fun i => ?_
    rw [List.getElem?_map]
    cases hv : its[i]? with
    | none =>
      have : its.length ≤ i := List.getElem?_eq_none_iff.mp hv
      rw [List.getElem?_eq_none (by omega)]
      rfl
    | some v =>
      obtain ⟨n, hn, hf⟩ := fst i v hv
      rw [hn]
      show some (fstI s.heap v) = some n
      rw [fstI_of hf]
  have fstM : ∀ v ∈ its, FstAt s.heap v (fstI s.heap v) := fun v hv => by
    obtain ⟨i, hi⟩ := List.getElem?_of_mem hv
    obtain ⟨n, _, hf⟩ := fst i v hi
    rw [fstI_of hf]
    exact hf
  have nd2 : (its.map (fstI s.heap)).Nodup := by
    rw [keys]
    exact nd
  have inj : ∀ v ∈ its, ∀ u ∈ its, fstI s.heap v = fstI s.heap u → v = u := fun v hv u hu e => nodup_inj nd2 v hv u hu e
  have O : SrtO.Swo (fun v u => decide (fstI s.heap v < fstI s.heap u)) := by
    refine ⟨fun x y h => ?_, fun x y z h1 h2 => ?_⟩
    · have := of_decide_eq_true h
      exact decide_eq_false (by omega)
    · have a1 := of_decide_eq_false h1
      have a2 := of_decide_eq_false h2
      exact decide_eq_false (by omega)
  refine SrtO.sorted_ord O hl.isList (by rw [len]; exact hz) (fun h2 h₁ a' _ keep => ?_) fun out h1 h2 => ?_
  · intro h' keep'
    have at' : ∀ v ∈ its, FstAt h' v (fstI s.heap v) := fun v hv => by
      obtain ⟨b, o, ys, n, t, e, ho, hc, hd, h0⟩ := fstM v hv
      obtain ⟨nb, o1⟩ := keep b o ho
      exact ⟨b, o, ys, n, t, e, keep' b o nb o1, hc, hd, h0⟩
    refine ⟨tuples' true, fun Q E hq => ?_, fun p q hm hm' => ?_⟩
    · have tups : ∀ l : List Value, (∀ v ∈ l, v ∈ its) → ∃ fs, PyProof.Rows.TupsOf h' (fun _ => false) l fs ∧ fs.length = l.length := fun l => by
        induction l with
        | nil => exact fun _ => ⟨[], .nil, rfl⟩
        | cons v r ih =>
          intro hin
          obtain ⟨fs, hf, hlf⟩ := ih fun u hu => hin u (List.mem_cons_of_mem _ hu)
          obtain ⟨b, o, ys, n, t, e, ho, hc, hd, h0⟩ := at' v (hin v List.mem_cons_self)
          exact ⟨_ :: fs, .cons ⟨b, o, ys, n, e, ho, hc, hd, h0, fun _ => ⟨_, t, rfl⟩, fun z => nomatch z⟩ hf, by rw [List.length_cons, List.length_cons, hlf]⟩
      obtain ⟨fs, hf, hlf⟩ := tups its fun _ h => h
      exact PyProof.Rows.tup_kind (by rw [hlf]; omega) hf hq
    · refine fst_lt (s := { s with heap := h' }) (at' _ hm) (at' _ hm') ?_ ⟨rfl, rfl⟩
      by_cases e : fstI s.heap p.1 = fstI s.heap q.1
      · exact .inl (inj _ hm _ hm' e)
      · exact .inr e
  · obtain ⟨ep, he'⟩ := PyProof.Rows.sortedAll_at s.heap its out.toArray
    have h3 : ∀ u ∈ out, ∃ a, u = Value.ref a := fun u hu => e2 u (h2.perm.mem_iff.mp hu)
    have hp : (out.map bkV).Perm xs := by
      rw [e1]
      exact h2.perm.map bkV
    have hlen : (out.map bkV).length ≤ sizeLine := by
      rw [hp.length_eq]
      exact hz
    have nd3 : out.Nodup := h2.perm.nodup_iff.mpr (nodup_of_map nd2)
    refine ⟨.ref _, upd H (s.heap.objs.size + 1) (.lst (out.map bkV)), I.laid (t' := s.toks) (fun _ _ => PyProof.Rows.sortedAll_old) (Nat.le_succ _) ⟨hlen, out, ep, bkV_vals h3, he'⟩, rfl, q _ _ hp ?_ (I.hok.fresh (Nat.le_succ _))⟩
    rw [List.pairwise_map]
    refine List.Pairwise.imp_of_mem (fun {u v} hu hv huv n m hn hm => ?_) (List.Pairwise.and h1 nd3)
    have fu := fstI_of (at_ hn rfl)
    have fv := fstI_of (at_ hm rfl)
    have hno := of_decide_eq_false huv.1
    have hne : fstI s.heap u ≠ fstI s.heap v := fun e => huv.2 (inj u (h2.perm.mem_iff.mp hu) v (h2.perm.mem_iff.mp hv) e)
    omega
end
/-- what is mapped onto a permuted list -/
theorem perm_of_map {α β : Type} (f : α → β) : ∀ {l : List β} {m : List α}, l.Perm (m.map f) → ∃ l' : List α, l'.Perm m ∧ l'.map f = l
  | [], m, h => by
    have : m.map f = [] := List.Perm.nil_eq h |>.symm
    have : m = [] := by simpa using this
    exact ⟨[], by rw [this], rfl⟩
  | x :: r, m, h => by
    have hx : x ∈ m.map f := h.mem_iff.mp List.mem_cons_self
    obtain ⟨a, ha, rfl⟩ := List.mem_map.mp hx
    obtain ⟨s, t, rfl⟩ := List.append_of_mem ha
    have h2 : (f a :: r).Perm (f a :: ((s ++ t).map f)) := by
      refine h.trans ?_
      rw [List.map_append, List.map_append, List.map_cons]
      exact List.perm_middle
    obtain ⟨l', hp, e⟩ := perm_of_map f h2.cons_inv
    exact ⟨a :: l', (hp.cons a).trans List.perm_middle.symm, by rw [List.map_cons, e]⟩
/-- data goes along -/
theorem perm_data {K : PySem.W.Frag} {B : Addr → Prop} {H : Hp} {xs ys : List V} {ds : List PyData} (hd : DtAll K B H xs ds) (p : ys.Perm xs) : ∃ es : List PyData, es.Perm ds ∧ DtAll K B H ys es := by
  have e : (xs.zip ds).map Prod.fst = xs := by
    rw [List.map_fst_zip]
    exact Nat.le_of_eq hd.len
  have e2 : (xs.zip ds).map Prod.snd = ds := by
    rw [List.map_snd_zip]
    exact Nat.le_of_eq hd.len.symm
  rw [← e] at p
  obtain ⟨l, pl, rfl⟩ := perm_of_map Prod.fst p
  refine ⟨l.map Prod.snd, by rw [← e2]; exact pl.map _, DtAll.of (by rw [List.length_map, List.length_map]) fun i v d h1 h2 => ?_⟩
  rw [List.getElem?_map, Option.map_eq_some_iff] at h1 h2
  obtain ⟨z, hz, rfl⟩ := h1
  obtain ⟨z', hz', rfl⟩ := h2
  rw [hz] at hz'
  obtain rfl := Option.some.inj hz'
  have hm : z ∈ xs.zip ds := pl.mem_iff.mp (List.mem_of_getElem? hz)
  obtain ⟨j, hj⟩ := List.getElem?_of_mem hm
  rw [List.getElem?_zip_eq_some] at hj
  obtain ⟨d', hd', hx⟩ := hd.get hj.1
  rw [hj.2] at hd'
  obtain rfl := Option.some.inj hd'
  exact hx
end SB
end

section
set_option Elab.async false
set_option linter.all false
set_option maxRecDepth 100000
set_option maxHeartbeats 2000000
set_option autoImplicit false
/-! SbM3: plain: moments, the history that is drawn. -/
namespace SB
open PySem PySem.Spec PyProof.Rows L2 Evl
/-- the ends so far -/
structure EndsOk (n i : Nat) (es : List (List Int)) : Prop where
  len : es.length = 2 * i
  at_ : ∀ k, k < i → ∃ x y : Int, es[2 * k]? = some [x, 0, (k : Int)] ∧ es[2 * k + 1]? = some [y, 1, (k : Int)] ∧ 0 ≤ x ∧ x ≤ k ∧ (k : Int) ≤ y ∧ y < n
theorem EndsOk.nil {n : Nat} : EndsOk n 0 [] := ⟨rfl, fun k h => absurd h (Nat.not_lt_zero k)⟩
theorem EndsOk.step {n i : Nat} {es : List (List Int)} {x y : Int} (h : EndsOk n i es) (x0 : 0 ≤ x) (x1 : x ≤ i) (y0 : (i : Int) ≤ y) (y1 : y < n) : EndsOk n (i + 1) (es ++ [[x, 0, (i : Int)]] ++ [[y, 1, (i : Int)]]) := by
  refine ⟨by simp [h.len]; omega, fun k hk => ?_⟩
  by_cases e : k = i
  · subst e
    refine ⟨x, y, ?_, ?_, x0, x1, y0, y1⟩
    · rw [List.append_assoc, List.getElem?_append_right (by rw [h.len]; exact Nat.le_refl _), h.len]
      simp
    · rw [List.append_assoc, List.getElem?_append_right (by rw [h.len]; omega), h.len]
      simp
  · obtain ⟨x', y', h1, h2, h3⟩ := h.at_ k (by omega)
    refine ⟨x', y', ?_, ?_, h3⟩
    · rw [List.append_assoc, List.getElem?_append_left (by rw [h.len]; omega)]
      exact h1
    · rw [List.append_assoc, List.getElem?_append_left (by rw [h.len]; omega)]
      exact h2
def keyE (z : List Int) : List Key := [.inl (z.getD 2 0), .inl (z.getD 1 0)]
theorem EndsOk.shape {n i : Nat} {es : List (List Int)} (h : EndsOk n i es) {j : Nat} (hj : j < 2 * i) : ∃ x : Int, es[j]? = some [x, ((j % 2 : Nat) : Int), ((j / 2 : Nat) : Int)] ∧ 0 ≤ x ∧ x < n + 1 := by
  obtain ⟨x, y, h1, h2, x0, x1, y0, y1⟩ := h.at_ (j / 2) (by omega)
  by_cases e : j % 2 = 0
  · have ej : j = 2 * (j / 2) := by omega
    refine ⟨x, ?_, x0, by omega⟩
    rw [e]
    exact (congrArg (fun t => es[t]?) ej).trans h1
  · have e1 : j % 2 = 1 := by omega
    have ej : j = 2 * (j / 2) + 1 := by omega
    refine ⟨y, ?_, by omega, by omega⟩
    rw [e1]
    exact (congrArg (fun t => es[t]?) ej).trans h2
theorem EndsOk.keys {n i : Nat} {es : List (List Int)} (h : EndsOk n i es) : es.map keyE = (List.range (2 * i)).map fun j => ([.inl ((j / 2 : Nat) : Int), .inl ((j % 2 : Nat) : Int)] : List Key) := by
  refine List.ext_getElem? fun j => ?_
  rw [List.getElem?_map, List.getElem?_map]
  by_cases hj : j < 2 * i
  · obtain ⟨x, hx, _⟩ := h.shape hj
    rw [hx, List.getElem?_range hj]
    rfl
  · rw [List.getElem?_eq_none (by rw [h.len]; omega), List.getElem?_eq_none (by rw [List.length_range]; omega)]
    rfl
theorem EndsOk.nodup {n i : Nat} {es : List (List Int)} (h : EndsOk n i es) : (es.map keyE).Nodup := by
  rw [h.keys]
  unfold List.Nodup
  rw [List.pairwise_map]
  refine List.Pairwise.imp (fun {a b} (hab : a < b) e => ?_) List.pairwise_lt_range
  injection e with e1 e
  injection e with e2 _
  have e1 := Sum.inl.inj e1
  have e2 := Sum.inl.inj e2
  omega
theorem code3 (x y z : Int) : TS.code 64 [x, y, z] = x * 4096 + y * 64 + z := by
  simp [TS.code]
  omega
/-- the moments -/
structure MomOk (n : Nat) (B E : Nat → Int) : Prop where
  lt : ∀ k, k < n → B k < E k
  lo : ∀ k, k < n → 0 ≤ B k
  hi : ∀ k, k < n → E k ≤ 1000
  nd : ((List.range n).map B ++ (List.range n).map E).Nodup
theorem nodup_map_inj {α β : Type} {f : α → β} {l : List α} (h : l.Nodup) (hf : ∀ a ∈ l, ∀ b ∈ l, f a = f b → a = b) : (l.map f).Nodup := by
  unfold List.Nodup at *
  rw [List.pairwise_map]
  exact List.Pairwise.imp_of_mem (fun {a b} ha hb ne e => ne (hf a ha b hb e)) h
theorem moments_of {n : Nat} {es zs : List (List Int)} {at_ wide : Int} (hn : n ≤ 10) (h : EndsOk n n es) (p : zs.Perm es) (srt : zs.Pairwise fun a b => TS.code 64 a ≤ TS.code 64 b) (a0 : 0 ≤ at_) (a1 : at_ < 4) (w0 : 1 ≤ wide) (w1 : wide ≤ 3) :
    ∃ B E : Nat → Int, MomOk n B E ∧ ∀ k, k < n → (∃ (i : Nat) (z : List Int), zs[i]? = some z ∧ keyE z = [.inl (k : Int), .inl 0] ∧ B k = at_ + (i : Int) * wide) ∧ ∃ (i : Nat) (z : List Int), zs[i]? = some z ∧ keyE z = [.inl (k : Int), .inl 1] ∧ E k = at_ + (i : Int) * wide := by
  have zl : zs.length = 2 * n := by rw [p.length_eq, h.len]
  have pos : ∀ k, k < n → ∃ i j : Nat, ∃ x y : Int, zs[i]? = some [x, 0, (k : Int)] ∧ zs[j]? = some [y, 1, (k : Int)] ∧ i < j := fun k hk => by
    obtain ⟨x, y, h1, h2, x0, x1, y0, y1⟩ := h.at_ k hk
    obtain ⟨i, hi⟩ := List.getElem?_of_mem (p.mem_iff.mpr (List.mem_of_getElem? h1))
    obtain ⟨j, hj⟩ := List.getElem?_of_mem (p.mem_iff.mpr (List.mem_of_getElem? h2))
    refine ⟨i, j, x, y, hi, hj, ?_⟩
    rcases Nat.lt_trichotomy i j with l | l | l
    · exact l
    · subst l
      rw [hi] at hj
      injection Option.some.inj hj with _ e
      injection e with e _
      omega
    · obtain ⟨li, ei⟩ := List.getElem?_eq_some_iff.mp hi
      obtain ⟨lj, ej⟩ := List.getElem?_eq_some_iff.mp hj
      have c := List.pairwise_iff_getElem.mp srt j i lj li l
      rw [ei, ej, code3, code3] at c
      omega
  have fi : ∀ k, ∃ i, k < n → ∃ x : Int, zs[i]? = some [x, 0, (k : Int)] := fun k => by
    by_cases hk : k < n
    · obtain ⟨i, j, x, y, h1, h2, _⟩ := pos k hk
      exact ⟨i, fun _ => ⟨x, h1⟩⟩
    · exact ⟨0, fun z => absurd z hk⟩
  have fj : ∀ k, ∃ j, k < n → ∃ y : Int, zs[j]? = some [y, 1, (k : Int)] := fun k => by
    by_cases hk : k < n
    · obtain ⟨i, j, x, y, h1, h2, _⟩ := pos k hk
      exact ⟨j, fun _ => ⟨y, h2⟩⟩
    · exact ⟨0, fun z => absurd z hk⟩
  have nk : (zs.map keyE).Nodup := (p.map keyE).nodup_iff.mpr h.nodup
  have uniq : ∀ (i j : Nat) (z z' : List Int), zs[i]? = some z → zs[j]? = some z' → keyE z = keyE z' → i = j := fun i j z z' h1 h2 e => nodup_at nk (by rw [List.getElem?_map, h1]; rfl) (by rw [List.getElem?_map, h2]; exact congrArg some e.symm)
  have ci : ∀ k, k < n → ∃ x : Int, zs[(fi k).choose]? = some [x, 0, (k : Int)] := fun k hk => (fi k).choose_spec hk
  have cj : ∀ k, k < n → ∃ x : Int, zs[(fj k).choose]? = some [x, 1, (k : Int)] := fun k hk => (fj k).choose_spec hk
  have bound : ∀ (i : Nat) (z : List Int), zs[i]? = some z → i < 20 := fun i z hz => by
    have := (List.getElem?_eq_some_iff.mp hz).1
    omega
  refine ⟨fun k => at_ + ((fi k).choose : Nat) * wide, fun k => at_ + ((fj k).choose : Nat) * wide, ⟨fun k hk => ?_, fun k hk => ?_, fun k hk => ?_, ?_⟩, fun k hk => ⟨?_, ?_⟩⟩
  · obtain ⟨i, j, x, y, h1, h2, l⟩ := pos k hk
    obtain ⟨x', h1'⟩ := ci k hk
    obtain ⟨y', h2'⟩ := cj k hk
    have e1 := uniq _ _ _ _ h1' h1 rfl
    have e2 := uniq _ _ _ _ h2' h2 rfl
    show at_ + ((fi k).choose : Nat) * wide < at_ + ((fj k).choose : Nat) * wide
    rw [e1, e2]
    have : (i : Int) * wide < (j : Int) * wide := Int.mul_lt_mul_of_pos_right (by omega) (by omega)
    omega
  · have : 0 ≤ (((fi k).choose : Nat) : Int) * wide := Int.mul_nonneg (by omega) (by omega)
    show 0 ≤ at_ + ((fi k).choose : Nat) * wide
    omega
  · obtain ⟨y', h2'⟩ := cj k hk
    have b := bound _ _ h2'
    show at_ + ((fj k).choose : Nat) * wide ≤ 1000
    have : (((fj k).choose : Nat) : Int) * wide ≤ 20 * wide := Int.mul_le_mul_of_nonneg_right (by omega) (by omega)
    omega
  · have inj : ∀ i j : Nat, at_ + (i : Int) * wide = at_ + (j : Int) * wide → i = j := fun i j e => by
      have e2 : (i : Int) * wide = (j : Int) * wide := by omega
      have := Int.eq_of_mul_eq_mul_right (by omega) e2
      omega
    rw [List.nodup_append]
    refine ⟨nodup_map_inj List.nodup_range fun a ha b hb e => ?_, nodup_map_inj List.nodup_range fun a ha b hb e => ?_, fun u hu v hv e => ?_⟩
    · obtain ⟨x, h1⟩ := ci a (List.mem_range.mp ha)
      obtain ⟨y, h2⟩ := ci b (List.mem_range.mp hb)
      have e := inj _ _ e
      rw [e, h2] at h1
      injection Option.some.inj h1 with _ q
      injection q with _ q
      injection q with q _
      omega
    · obtain ⟨x, h1⟩ := cj a (List.mem_range.mp ha)
      obtain ⟨y, h2⟩ := cj b (List.mem_range.mp hb)
      have e := inj _ _ e
      rw [e, h2] at h1
      injection Option.some.inj h1 with _ q
      injection q with _ q
      injection q with q _
      omega
    · obtain ⟨a, ha, rfl⟩ := List.mem_map.mp hu
      obtain ⟨b, hb, rfl⟩ := List.mem_map.mp hv
      obtain ⟨x, h1⟩ := ci a (List.mem_range.mp ha)
      obtain ⟨y, h2⟩ := cj b (List.mem_range.mp hb)
      have e := inj _ _ e
      rw [e, h2] at h1
      injection Option.some.inj h1 with _ q
      injection q with q _
      omega
  · obtain ⟨x, h1⟩ := ci k hk
    exact ⟨_, _, h1, rfl, rfl⟩
  · obtain ⟨x, h1⟩ := cj k hk
    exact ⟨_, _, h1, rfl, rfl⟩
def clOf (B E : Nat → Int) (rs : List Rt) (k : Nat) : Cl := ⟨B k, E k, ((rs.getD k ⟨0, "", .none, .none⟩).th : Int), (rs.getD k ⟨0, "", .none, .none⟩).wo, (rs.getD k ⟨0, "", .none, .none⟩).giv, (rs.getD k ⟨0, "", .none, .none⟩).told⟩
def calls0 (n : Nat) (B E : Nat → Int) (rs : List Rt) : List Cl := (List.range n).map (clOf B E rs)
theorem rows_range (rs : List Rt) : (List.range rs.length).map (fun k => rs.getD k ⟨0, "", .none, .none⟩) = rs := by
  refine List.ext_getElem? fun k => ?_
  rw [List.getElem?_map]
  by_cases h : k < rs.length
  · rw [List.getElem?_range h]
    simp [h]
  · rw [List.getElem?_eq_none (by rw [List.length_range]; omega), List.getElem?_eq_none (by omega)]
    rfl
theorem keys_calls0 (B E : Nat → Int) (rs : List Rt) : giverKeys (calls0 rs.length B E rs) = keysR rs := by
  unfold giverKeys calls0 keysR
  conv => rhs; rw [← rows_range rs]
  rw [List.filter_map, List.filter_map, List.map_map, List.map_map]
  rfl
/-- what is told by the counters is small -/
def Low (m : Int) (cs : List Cl) : Prop := ∀ c ∈ cs, c.wo ∈ NUM → toI c.told ≤ m
theorem low_of {ss : List Srt} {sts : List PyData} {uss : List (List Int)} {rs : List Rt} {n N : Nat} {B E : Nat → Int} {cs : List Cl} (R : RowsF ss sts uss rs N) (hl : rs.length = n) (p : cs.Perm (calls0 n B E rs)) : Low (N : Int) cs := fun c hc hw => by
  obtain ⟨k, hk, rfl⟩ := List.mem_map.mp (p.mem_iff.mp hc)
  have hk := List.mem_range.mp hk
  have hkr : k < rs.length := by omega
  have er : rs.getD k ⟨0, "", .none, .none⟩ = rs[k] := by simp [hkr]
  have hw : (rs.getD k ⟨0, "", .none, .none⟩).wo ∈ NUM := hw
  show toI (rs.getD k ⟨0, "", .none, .none⟩).told ≤ _
  rw [er] at hw ⊢
  exact R.nm _ (List.getElem_mem _) hw
theorem hist_ok {ss : List Srt} {sts : List PyData} {uss : List (List Int)} {rs : List Rt} {n N : Nat} {B E : Nat → Int} {cs : List Cl} (h1 : 1 ≤ ss.length) (h4 : ss.length ≤ 4) (hok : ∀ s ∈ ss, s.ok) (hn : n ≤ 10) (R : RowsF ss sts uss rs N) (hl : rs.length = n) (M : MomOk n B E)
    (p : cs.Perm (calls0 n B E rs)) (up : cs.Pairwise fun c d => c.b < d.b) : HistOk ss cs := by
  refine ⟨h1, h4, hok, ?_, fun c hc => ?_, ?_, fun i c d h1 h2 => ?_, ?_⟩
  · rw [p.length_eq, calls0, List.length_map, List.length_range]
    exact hn
  · obtain ⟨k, hk, rfl⟩ := List.mem_map.mp (p.mem_iff.mp hc)
    have hk := List.mem_range.mp hk
    have hkr : k < rs.length := by omega
    have er : rs.getD k ⟨0, "", .none, .none⟩ = rs[k] := by simp [hkr]
    obtain ⟨s, st, us, a, _, _, F⟩ := R.rf rs[k] (List.getElem_mem _)
    have lt := M.lt k hk
    have lo := M.lo k hk
    have hi := M.hi k hk
    refine ⟨lo, lt, ?_, ?_, ?_, ?_⟩
    · show E k ≤ 1000000
      omega
    · exact ⟨rs[k].th, s, by show ((rs.getD k _).th : Int) = _; rw [er], a, by show (rs.getD k _).wo ∈ _; rw [er]; exact F.wo⟩
    · show canGive (rs.getD k _).wo (rs.getD k _).giv = true
      rw [er]
      exact F.gv
    · show canTell (rs.getD k _).wo (rs.getD k _).told = true
      rw [er]
      exact F.tl
  · have q : (moments cs).Perm (moments (calls0 n B E rs)) := (p.map Cl.b).append (p.map Cl.e)
    refine q.nodup_iff.mpr ?_
    have e : moments (calls0 n B E rs) = (List.range n).map B ++ (List.range n).map E := by
      unfold moments calls0
      rw [List.map_map, List.map_map]
      rfl
    rw [e]
    exact M.nd
  · obtain ⟨l1, rfl⟩ := List.getElem?_eq_some_iff.mp h1
    obtain ⟨l2, rfl⟩ := List.getElem?_eq_some_iff.mp h2
    exact List.pairwise_iff_getElem.mp up i (i + 1) l1 l2 (Nat.lt_succ_self i)
  · have q : (giverKeys cs).Perm (giverKeys (calls0 n B E rs)) := (p.filter _).map _
    refine q.nodup_iff.mpr ?_
    rw [← hl, keys_calls0]
    exact R.gk
end SB
end

section
set_option Elab.async false
set_option linter.all false
set_option maxRecDepth 100000
set_option maxHeartbeats 2000000
set_option autoImplicit false
/-! SbL6: a history. -/
namespace SB
open PySem PySem.Spec PyProof.Rows L2 Evl
abbrev s__law_history : Stmt := topS 53
abbrev N__law_history : List Str := ["_law_state", "_law_sorts_here", "_law_many", "_law_row_here", "_law_ends", "_law_k", "_law_wide", "_law_at", "_law_moments_so", "_law_number", "_law_one", "_law_found_so"]
theorem sc__law_history : FnScope N__law_history ["_law_state", "_law_sorts_here", "_law_many"] (C8.fnScope s__law_history) := C8.fnScope_by (by decide +kernel)
local macro_rules | `(tactic| walk_at "sd") => `(tactic| first | with_reducible rfl | assumption | exact SeqD.t | exact SeqD.l | rfl | omega)
local macro_rules | `(tactic| walk_at "dt") => `(tactic| first | assumption | exact Dt.int _ | exact Dt.bl _ | exact Dt.str _ | exact Dt.non | exact Dt.ex (by assumption) (by assumption))
local macro_rules | `(tactic| walk_at "ev") => `(tactic| first
  | assumption
  | with_reducible apply ed_int
  | with_reducible apply ed_str
  | with_reducible apply ed_bl
  | with_reducible apply ed_non
  | with_reducible apply ead_nil
  | with_reducible exact et_yes
  | with_reducible exact eo_none
  | exact evd_var rfl (by walk_at "dt")
  | ((with_reducible apply td_test); walk_at "ev")
  | ((with_reducible apply td_B); walk_at "ev")
  | ((with_reducible apply et_not); walk_at "ev")
  | ((with_reducible apply et_and); walk_at "ev"; intro _; walk_at "ev")
  | ((with_reducible apply et_or); walk_at "ev"; intro _; walk_at "ev")
  | ((with_reducible apply ead_cons); walk_at "ev"; walk_at "ev")
  | ((with_reducible apply eod_some); walk_at "ev")
  | ((with_reducible apply evd_tup); walk_at "ev"; first | decide | (focus (simp; done)) | omega)
  | ((with_reducible apply evd_lst); walk_at "ev"; first | decide | (focus (simp; done)) | omega)
  | ((with_reducible apply ed_not); walk_at "ev")
  | ((with_reducible apply ed_and); walk_at "ev"; intro _; walk_at "ev")
  | ((with_reducible apply ed_or); walk_at "ev"; intro _; walk_at "ev")
  | ((with_reducible apply ed_i0); walk_at "ev"; walk_at "ev")
  | ((with_reducible apply ed_b0); walk_at "ev"; walk_at "ev")
  | ((with_reducible apply ed_eqI); walk_at "ev"; walk_at "ev")
  | ((with_reducible apply ed_eqS); walk_at "ev"; walk_at "ev")
  | ((with_reducible apply ed_eqB); walk_at "ev"; walk_at "ev")
  | ((with_reducible apply ed_neI); walk_at "ev"; walk_at "ev")
  | ((with_reducible apply ed_neS); walk_at "ev"; walk_at "ev")
  | ((with_reducible apply ed_neB); walk_at "ev"; walk_at "ev")
  | ((with_reducible apply ed_isN); walk_at "ev"; walk_at "ev")
  | ((with_reducible apply ed_notN); walk_at "ev"; walk_at "ev")
  | ((with_reducible apply ed_chain); walk_at "ev"; walk_at "ev"; walk_at "ev")
  | ((with_reducible apply ed_ixT); walk_at "ev"; walk_at "ev"; walk_at "sd")
  | ((with_reducible apply ed_ixL); walk_at "ev"; walk_at "ev"; walk_at "sd")
  | ((with_reducible apply ed_isi); walk_at "ev"; (first | exact kit_int _ | exact kit_bool _ | exact kit_tuple _ | exact kit_str _))
  | ((with_reducible apply ed_len); walk_at "ev"; walk_at "sd")
  | ((with_reducible apply ed_call); walk_at "ev"; (first | assumption | exact ⟨_, rfl, rfl⟩ | exact ⟨_, _, rfl, rfl⟩ | exact ⟨_, _, _, rfl, rfl⟩); exact rfl)
  | ((with_reducible apply ed_max2); walk_at "ev"; walk_at "ev")
  | ((with_reducible apply ed_min2); walk_at "ev"; walk_at "ev")
  | ((with_reducible apply ed_list); walk_at "ev"; walk_at "sd")
  | ((with_reducible apply ed_tuple); walk_at "ev"; walk_at "sd")
  | ((with_reducible apply ed_neg); walk_at "ev"))

section
variable {K : PySem.W.Frag} {σ : L2.St} {H H' : Hp} {ta tb tc te : TE}
theorem tup2_go {Q : VK} (h : ta σ H fun v1 H1 => tb σ H1 fun v2 H2 => 2 ≤ sizeLine ∧ ∀ p, H2 p = none → Q (.ref p) (upd H2 p (.tup [v1, v2]))) : tTup (tCons ta (tCons tb tNil)) σ H Q := h
theorem tup3_go {Q : VK} (h : ta σ H fun v1 H1 => tb σ H1 fun v2 H2 => tc σ H2 fun v3 H3 => 3 ≤ sizeLine ∧ ∀ p, H3 p = none → Q (.ref p) (upd H3 p (.tup [v1, v2, v3]))) : tTup (tCons ta (tCons tb (tCons tc tNil))) σ H Q := h
theorem gtup2_go {i j : Nat} {p : Addr} {v1 v2 : V} {R : L2.St → Hp → Prop} (h : H p = some (.tup [v1, v2])) (k : R ((σ.set i (some v1)).set j (some v2)) H) : gTup K 2 (gCons (gName i) (gCons (gName j) gNil)) (.ref p) σ H R := ⟨p, _, rfl, SqT.of h, rfl, v1, _, rfl, v2, _, rfl, rfl, k⟩
theorem gtup3_go {i j l : Nat} {p : Addr} {v1 v2 v3 : V} {R : L2.St → Hp → Prop} (h : H p = some (.tup [v1, v2, v3])) (k : R (((σ.set i (some v1)).set j (some v2)).set l (some v3)) H) : gTup K 3 (gCons (gName i) (gCons (gName j) (gCons (gName l) gNil))) (.ref p) σ H R := ⟨p, _, rfl, SqT.of h, rfl, v1, _, rfl, v2, _, rfl, v3, _, rfl, rfl, k⟩
/-- d[k, f], d with keys of two ints -/
theorem ed_get2 {i j : Nat} {M : Addr} {a b m : Int} {kvs : List (List Key × V)} (h : σ[i]? = some (some (.ref M))) (hj : σ[j]? = some (some (.int a))) (hM : H M = some (.dT kvs)) (hv : valV kvs [.inl a, .inl b] = some (.int m)) : EvD K (tDGet (tVar i) (tTup (tCons (tVar j) (tCons (tC (.int b)) tNil)))) σ H (.int m) := fun H1 e Q q =>
  ⟨_, h, _, hj, two_le, fun p hp => ⟨M, .int m, rfl, by
    have g := DGet.t (k := [.inl a, .inl b]) (Ex.new (o := .tup [.int a, .int b]) hp _ _ (e _ _ hM)) upd_same
    rw [hv] at g
    exact g, q _ _ (Ex.new hp) (.int m)⟩⟩
/-- sorted(xs), triples of small ints -/
theorem sortU_go {a : Addr} {es : List (List Int)} {vs : List V} {Q : VK} (hte : Ev te σ H (.ref a)) (hl : H a = some (.lst vs)) (hd : DtAll K No H vs (es.map tupI)) (h64 : es.length < 64) (h3 : ∀ z ∈ es, z.length = 3 ∧ TS.Bd 64 z)
    (k : ∀ p ys zs H1, Ex H H1 → H1 p = none → (zs : List (List Int)).Perm es → zs.Pairwise (fun a b => TS.code 64 a ≤ TS.code 64 b) → DtAll K No H1 ys (zs.map tupI) → Q (.ref p) (upd H1 p (.lst ys))) : tCB (rSortU K 3 64) (tCons te tNil) σ H Q :=
  hte H (Ex.refl H) _ fun H1 e1 => by
    have hd1 := hd.ex e1
    have tup : ∀ (x : V) (z : List Int), Dt K No H1 x (tupI z) → TupI K H1 x z := fun x z h => by
      obtain ⟨p, xs, rfl, hs, hx⟩ := h.toTup
      obtain rfl := hx.toInts
      exact ⟨p, rfl, hs⟩
    refine ⟨a, vs, rfl, SqL.of (e1 _ _ hl), by rw [hd.len, List.length_map]; exact h64, fun x hx => ?_, fun ys p pm srt hp => ?_⟩
    · obtain ⟨i, hi⟩ := List.getElem?_of_mem hx
      obtain ⟨d, hdi, hxd⟩ := hd1.get hi
      rw [List.getElem?_map, Option.map_eq_some_iff] at hdi
      obtain ⟨z, hz, rfl⟩ := hdi
      exact ⟨z, tup x z hxd, h3 z (List.mem_of_getElem? hz)⟩
    · obtain ⟨ds, pd, hys⟩ := perm_data hd1 pm
      obtain ⟨zs, pz, rfl⟩ := perm_of_map tupI pd
      refine k p ys zs H1 e1 hp pz ?_ hys
      rw [List.pairwise_iff_getElem]
      intro i j hi hj hij
      have l : ys.length = zs.length := by rw [hys.len, List.length_map]
      have q := List.pairwise_iff_getElem.mp srt i j (by omega) (by omega) hij
      obtain ⟨d1, a1, b1⟩ := hys.get (i := i) (v := ys[i]'(by omega)) (by simp [l, hi])
      obtain ⟨d2, a2, b2⟩ := hys.get (i := j) (v := ys[j]'(by omega)) (by simp [l, hj])
      rw [List.getElem?_map, List.getElem?_eq_getElem hi] at a1
      rw [List.getElem?_map, List.getElem?_eq_getElem hj] at a2
      obtain rfl := Option.some.inj a1
      obtain rfl := Option.some.inj a2
      exact q _ _ (tup _ _ b1) (tup _ _ b2)
/-- sorted(xs), calls with different beginnings -/
theorem sortF_go {a : Addr} {cs : List Cl} {vs : List V} {Q : VK} (hte : Ev te σ H (.ref a)) (hl : H a = some (.lst vs)) (hd : DtAll K No H vs (cs.map Cl.data)) (nd : (cs.map Cl.b).Nodup)
    (k : ∀ p ys zs H1, Ex H H1 → H1 p = none → (zs : List Cl).Perm cs → zs.Pairwise (fun c d => c.b < d.b) → DtAll K No H1 ys (zs.map Cl.data) → Q (.ref p) (upd H1 p (.lst ys))) : tCB (rSortF K) (tCons te tNil) σ H Q :=
  hte H (Ex.refl H) _ fun H1 e1 => by
    have hd1 := hd.ex e1
    have fst : ∀ (x : V) (c : Cl), Dt K No H1 x c.data → FstV K H1 x c.b := fun x c h => by
      obtain ⟨p, xs, rfl, hs, hx⟩ := h.toTup
      cases hx with
      | cons h1 h2 =>
        rw [h1.toInt] at hs
        exact ⟨p, _, rfl, hs⟩
    refine ⟨a, vs, cs.map Cl.b, rfl, SqL.of (e1 _ _ hl), by rw [hd.len, List.length_map, List.length_map], fun i x n hx hn => ?_, nd, fun ys p pm srt hp => ?_⟩
    · obtain ⟨d, hdi, hxd⟩ := hd1.get hx
      rw [List.getElem?_map, Option.map_eq_some_iff] at hdi hn
      obtain ⟨c, hc, rfl⟩ := hdi
      obtain ⟨c', hc', rfl⟩ := hn
      rw [hc] at hc'
      obtain rfl := Option.some.inj hc'
      exact fst x c hxd
    · obtain ⟨ds, pd, hys⟩ := perm_data hd1 pm
      obtain ⟨zs, pz, rfl⟩ := perm_of_map Cl.data pd
      refine k p ys zs H1 e1 hp pz ?_ hys
      rw [List.pairwise_iff_getElem]
      intro i j hi hj hij
      have l : ys.length = zs.length := by rw [hys.len, List.length_map]
      have q := List.pairwise_iff_getElem.mp srt i j (by omega) (by omega) hij
      obtain ⟨d1, a1, b1⟩ := hys.get (i := i) (v := ys[i]'(by omega)) (by simp [l, hi])
      obtain ⟨d2, a2, b2⟩ := hys.get (i := j) (v := ys[j]'(by omega)) (by simp [l, hj])
      rw [List.getElem?_map, List.getElem?_eq_getElem hi] at a1
      rw [List.getElem?_map, List.getElem?_eq_getElem hj] at a2
      obtain rfl := Option.some.inj a1
      obtain rfl := Option.some.inj a2
      exact q _ _ (fst _ _ b1) (fst _ _ b2)
end
end SB
end

section
set_option Elab.async false
set_option linter.all false
set_option maxRecDepth 100000
set_option maxHeartbeats 2000000
set_option autoImplicit false
/-! SbL7: a history. -/
namespace SB
open PySem PySem.Spec PyProof.Rows L2 Evl
local macro_rules | `(tactic| walk_at "sd") => `(tactic| first | with_reducible rfl | assumption | exact SeqD.t | exact SeqD.l | rfl | omega)
local macro_rules | `(tactic| walk_at "dt") => `(tactic| first | assumption | exact Dt.int _ | exact Dt.bl _ | exact Dt.str _ | exact Dt.non | exact Dt.ex (by assumption) (by assumption))
local macro_rules | `(tactic| walk_at "ev") => `(tactic| first
  | assumption
  | with_reducible apply ed_int
  | with_reducible apply ed_str
  | with_reducible apply ed_bl
  | with_reducible apply ed_non
  | with_reducible apply ead_nil
  | with_reducible exact et_yes
  | with_reducible exact eo_none
  | exact evd_var rfl (by walk_at "dt")
  | ((with_reducible apply td_test); walk_at "ev")
  | ((with_reducible apply td_B); walk_at "ev")
  | ((with_reducible apply et_not); walk_at "ev")
  | ((with_reducible apply et_and); walk_at "ev"; intro _; walk_at "ev")
  | ((with_reducible apply et_or); walk_at "ev"; intro _; walk_at "ev")
  | ((with_reducible apply ead_cons); walk_at "ev"; walk_at "ev")
  | ((with_reducible apply eod_some); walk_at "ev")
  | ((with_reducible apply evd_tup); walk_at "ev"; first | decide | (focus (simp; done)) | omega)
  | ((with_reducible apply evd_lst); walk_at "ev"; first | decide | (focus (simp; done)) | omega)
  | ((with_reducible apply ed_not); walk_at "ev")
  | ((with_reducible apply ed_and); walk_at "ev"; intro _; walk_at "ev")
  | ((with_reducible apply ed_or); walk_at "ev"; intro _; walk_at "ev")
  | ((with_reducible apply ed_i0); walk_at "ev"; walk_at "ev")
  | ((with_reducible apply ed_b0); walk_at "ev"; walk_at "ev")
  | ((with_reducible apply ed_eqI); walk_at "ev"; walk_at "ev")
  | ((with_reducible apply ed_eqS); walk_at "ev"; walk_at "ev")
  | ((with_reducible apply ed_eqB); walk_at "ev"; walk_at "ev")
  | ((with_reducible apply ed_neI); walk_at "ev"; walk_at "ev")
  | ((with_reducible apply ed_neS); walk_at "ev"; walk_at "ev")
  | ((with_reducible apply ed_neB); walk_at "ev"; walk_at "ev")
  | ((with_reducible apply ed_isN); walk_at "ev"; walk_at "ev")
  | ((with_reducible apply ed_notN); walk_at "ev"; walk_at "ev")
  | ((with_reducible apply ed_chain); walk_at "ev"; walk_at "ev"; walk_at "ev")
  | ((with_reducible apply ed_ixT); walk_at "ev"; walk_at "ev"; walk_at "sd")
  | ((with_reducible apply ed_ixL); walk_at "ev"; walk_at "ev"; walk_at "sd")
  | ((with_reducible apply ed_isi); walk_at "ev"; (first | exact kit_int _ | exact kit_bool _ | exact kit_tuple _ | exact kit_str _))
  | ((with_reducible apply ed_len); walk_at "ev"; walk_at "sd")
  | ((with_reducible apply ed_call); walk_at "ev"; (first | assumption | exact ⟨_, rfl, rfl⟩ | exact ⟨_, _, rfl, rfl⟩ | exact ⟨_, _, _, rfl, rfl⟩); exact rfl)
  | ((with_reducible apply ed_max2); walk_at "ev"; walk_at "ev")
  | ((with_reducible apply ed_min2); walk_at "ev"; walk_at "ev")
  | ((with_reducible apply ed_list); walk_at "ev"; walk_at "sd")
  | ((with_reducible apply ed_tuple); walk_at "ev"; walk_at "sd")
  | ((with_reducible apply ed_neg); walk_at "ev"))

section
variable {K : PySem.W.Frag} {σ : L2.St} {H H' : Hp} {ta tb tc te : TE}
theorem noLs_tupIs : ∀ es : List (List Int), noL.noLs (es.map tupI) = true
  | [] => rfl
  | e :: r => by
    show (noL.noLs (e.map PyData.int) && noL.noLs (r.map tupI)) = true
    rw [noLs_ints, noLs_tupIs r]
    rfl
theorem noLs_mem : ∀ {ds : List PyData} {d : PyData}, noL.noLs ds = true → d ∈ ds → noL d = true
  | x :: r, d, h, m => by
    have h : (noL x && noL.noLs r) = true := h
    rw [Bool.and_eq_true] at h
    rcases List.mem_cons.mp m with rfl | m
    · exact h.1
    · exact noLs_mem h.2 m
theorem lcR_map {j : Nat} {ta : TA} {n : Nat} (g : PyData → PyData) (h : EvAD K ta σ H [.int (n : Int)]) (hz : n ≤ 40000) (gl : ∀ i : Nat, i < n → noL (g (.int (i : Nat))) = true) (k : ∀ i : Nat, i < n → ∀ H1, Ex H H1 → EvD K te (σ.set j (some (.int (i : Nat)))) H1 (g (.int (i : Nat)))) :
    EvN K (tLc (iRng1 ta) (gName j) tYes te [j]) σ H ((rgD 0 n).map g) := by
  have r := evn_lcR1 (K := K) (te := te) (t := tYes) (gt := gName j) (vs := [j]) (fun _ => true) g h hz fun i hi H1 e => tk_name et_yes (fun _ => k i hi H1 e) fun _ => gl i hi
  rw [fm_yes] at r
  exact r
/-- the first end: k - draw, not below 0 -/
theorem end0_go {z : Sp3} {j k : Nat} {p : Addr} {acc : List V} {D : Ends} (h0 : σ[0]? = some (some (.ref z.S))) (h4 : σ[4]? = some (some (.ref p))) (h5 : σ[5]? = some (some (.int (k : Int)))) (hp : H p = some (.lst acc)) (sw : SW z H (j + 1)) (hk : acc.length < 100000)
    (pb : ¬ z.bar p) (q : ∀ x H1 T, 0 ≤ x → x ≤ (k : Int) → Kp z.bar H H1 → SW z H1 j → H1 T = none → D.nx σ (upd (upd H1 T (.tup ([x, 0, (k : Int)].map V.int))) p (.lst (acc ++ [.ref T])))) :
    tDrop (tBM K "list" rAppend (tVar 4) (tCons (tTup (tCons (tCB (fun xs H Q => ∃ i j, xs = [V.int i, V.int j] ∧ Q (V.int (if j > i then j else i)) H) (tCons (tC (V.int 0)) (tCons (tOp (rI0 fun i j => V.int (i - j)) (tVar 5) (tCall (spDraw z) [] C8.E0 (tCons (tVar 0) (tCons (tC (V.int 3)) tNil)))) tNil))) (tCons (tC (V.int 0)) (tCons (tVar 5) tNil)))) tNil)) D σ H :=
  ⟨_, h4, Or.inl ⟨rfl, acc, sq_of hp⟩, _, h5, draw_go (K := K) h0 sw ed_int (by decide) (by decide) fun r H1 r0 r1 kp s1 =>
    ⟨_, _, rfl, rfl, 0, _, rfl, _, h5, by show 3 ≤ sizeLine; decide, fun T hT =>
      have hp1 := kp.k p _ pb hp
      ⟨p, acc, .ref T, rfl, rfl, Ex.new hT _ _ hp1, sz_lt hk, q _ H1 T (by split <;> omega) (by split <;> omega) kp s1 hT⟩⟩⟩
theorem end1_go {z : Sp3} {j k n : Nat} {p : Addr} {acc : List V} {D : Ends} (h0 : σ[0]? = some (some (.ref z.S))) (h2 : σ[2]? = some (some (.int (n : Int)))) (h4 : σ[4]? = some (some (.ref p))) (h5 : σ[5]? = some (some (.int (k : Int)))) (hkn : k < n) (hp : H p = some (.lst acc)) (sw : SW z H (j + 1)) (hk : acc.length < 100000)
    (pb : ¬ z.bar p) (q : ∀ x H1 T, (k : Int) ≤ x → x < (n : Int) → Kp z.bar H H1 → SW z H1 j → H1 T = none → D.nx σ (upd (upd H1 T (.tup ([x, 1, (k : Int)].map V.int))) p (.lst (acc ++ [.ref T])))) :
    tDrop (tBM K "list" rAppend (tVar 4) (tCons (tTup (tCons (tCB (fun xs H Q => ∃ i j, xs = [V.int i, V.int j] ∧ Q (V.int (if j < i then j else i)) H) (tCons (tOp (rI0 fun i j => V.int (i - j)) (tVar 2) (tC (V.int 1))) (tCons (tOp (rI0 fun i j => V.int (i + j)) (tVar 5) (tCall (spDraw z) [] C8.E0 (tCons (tVar 0) (tCons (tC (V.int 3)) tNil)))) tNil))) (tCons (tC (V.int 1)) (tCons (tVar 5) tNil)))) tNil)) D σ H :=
  ⟨_, h4, Or.inl ⟨rfl, acc, sq_of hp⟩, _, h2, _, _, rfl, rfl, _, h5, draw_go (K := K) h0 sw ed_int (by decide) (by decide) fun r H1 r0 r1 kp s1 =>
    ⟨_, _, rfl, rfl, _, _, rfl, _, h5, by show 3 ≤ sizeLine; decide, fun T hT =>
      have hp1 := kp.k p _ pb hp
      ⟨p, acc, .ref T, rfl, rfl, Ex.new hT _ _ hp1, sz_lt hk, q _ H1 T (by split <;> omega) (by split <;> omega) kp s1 hT⟩⟩⟩
end
section
variable {P : Program} {w : World} {K : PySem.W.Frag} {mg : Str → Option Value} {base : Heap} {A0 : Ad}
def spHistory (K : PySem.W.Frag) (z : Sp3) : Sp := fun vs H Q _ => ∃ sv ss n j, vs = [.ref z.S, sv, .int ((n : Nat) : Int)] ∧ Dt K No H sv (dSorts ss) ∧ 0 < ss.length ∧ ss.length ≤ 4 ∧ (∀ s ∈ ss, Srt.ok s) ∧ n ≤ 10 ∧ SW z H (j + 3 * n + 2 * n + 2) ∧
  ∀ v H' cs, Kp z.bar H H' → SW z H' j → HistOk ss cs → Low 10 cs → Dt K No H' v (dHist ss cs) → Q v H'
def histSt (z : Sp3) (sv : V) (n : Nat) (R P4 : V) (o5 : Option V) (rest : List (Option V)) : L2.St := [some (.ref z.S), some sv, some (.int (n : Int)), some R, some P4, o5] ++ rest
theorem c__law_history (T : Tx A0 K w mg) (z : Sp3) : C8.Cal P w K mg base 6 "_law_history" (spHistory K z) [] := by
  have c__law_draw := c__law_draw (P := P) (base := base) T z
  have c__law_row := c__law_row (P := P) (base := base) T z
  refine cal_of T.d__law_history sc__law_history (fun vs H Q E h => by obtain ⟨sv, ss, n, j, rfl, _⟩ := h; rfl) (fun f cdv A outer s H vs Q E hr h => ?_)
  obtain ⟨sv, ss, n, j, rfl, hsv, hs0, hs1, hok, hn, sw, k⟩ := h
  refine ⟨_, (pss_cons (ps_asg (pe_tup (pa_cons (C8.pe_c c__law_row hr (by decide) (by rfl) (pa_cons (pv 0) (pa_cons (pv 1) (pa_cons (pv 2) pa_nil)))) (pa_cons (pe_lst pa_nil) pa_nil))) (pg_tup rfl (pgs_cons (pg_name (i := 3) sc__law_history.nd rfl (by first | exact Or.inl rfl | exact Or.inr rfl)) (pgs_cons (pg_name (i := 4) sc__law_history.nd rfl (by first | exact Or.inl rfl | exact Or.inr rfl)) pgs_nil))))
        (pss_cons (ps_for PassesOwn.never rfl (pi_range1 (by rfl) T.range (pa_cons (pv 2) pa_nil)) (pg_name (i := 5) sc__law_history.nd rfl (by first | exact Or.inl rfl | exact Or.inr rfl)) (pss_cons (ps_expr (pe_bm PySem.F.plainAttrs_list PySem.F.slot_list_append PySem.F.type_list_append mt_append (pv 4) (pa_cons (pe_tup (pa_cons (pe_callB (call_max2 rfl) (by rfl) T.max (by decide +kernel) (pa_cons pe_int (pa_cons (pe_op op_sub (pv 5) (C8.pe_c c__law_draw hr (by decide) (by rfl) (pa_cons (pv 0) (pa_cons pe_int pa_nil)))) pa_nil))) (pa_cons pe_int (pa_cons (pv 5) pa_nil)))) pa_nil)))
          (pss_one (ps_expr (pe_bm PySem.F.plainAttrs_list PySem.F.slot_list_append PySem.F.type_list_append mt_append (pv 4) (pa_cons (pe_tup (pa_cons (pe_callB (call_min2 rfl) (by rfl) T.min (by decide +kernel) (pa_cons (pe_op op_sub (pv 2) pe_int) (pa_cons (pe_op op_add (pv 5) (C8.pe_c c__law_draw hr (by decide) (by rfl) (pa_cons (pv 0) (pa_cons pe_int pa_nil)))) pa_nil))) (pa_cons pe_int (pa_cons (pv 5) pa_nil)))) pa_nil))))))
        (pss_cons (ps_asg (pe_tup (pa_cons (pe_op op_add pe_int (C8.pe_c c__law_draw hr (by decide) (by rfl) (pa_cons (pv 0) (pa_cons pe_int pa_nil)))) (pa_cons (C8.pe_c c__law_draw hr (by decide) (by rfl) (pa_cons (pv 0) (pa_cons pe_int pa_nil))) (pa_cons pe_dnewT pa_nil)))) (pg_tup rfl (pgs_cons (pg_name (i := 6) sc__law_history.nd rfl (by first | exact Or.inl rfl | exact Or.inr rfl)) (pgs_cons (pg_name (i := 7) sc__law_history.nd rfl (by first | exact Or.inl rfl | exact Or.inr rfl)) (pgs_cons (pg_name (i := 8) sc__law_history.nd rfl (by first | exact Or.inl rfl | exact Or.inr rfl)) pgs_nil)))))
        (pss_cons (ps_for PassesOwn.never rfl (pi_enum (by rfl) T.enumerate (pa_cons (pe_callB (cr_sortT (d := 3) (B := 64) (by decide)) (by rfl) T.sorted (by decide +kernel) (pa_cons (pv 4) pa_nil)) pa_nil)) (pg_tup rfl (pgs_cons (pg_name (i := 9) sc__law_history.nd rfl (by first | exact Or.inl rfl | exact Or.inr rfl)) (pgs_cons (pg_name (i := 10) sc__law_history.nd rfl (by first | exact Or.inl rfl | exact Or.inr rfl)) pgs_nil))) (pss_one (ps_dput (hu_of hr) (pv 8) (pe_tup (pa_cons (pe_ix ix_tup (pv 10) pe_int (fun _ _ => rfl)) (pa_cons (pe_ix ix_tup (pv 10) pe_int (fun _ _ => rfl)) pa_nil))) (pe_op op_add (pv 7) (pe_op op_mul (pv 9) (pv 6))) rfl)))
        (pss_cons (ps_setLc (i := 11) (own := [("_law_k", 5)]) (by rfl) sc__law_history.nd rfl rfl (sw_true rfl rfl rfl (by decide +kernel)) (pi_range1 (by rfl) T.range (pa_cons (pv 2) pa_nil)) (blkOk_by (N := N__law_history) (sc := (C8.fnScope s__law_history)) (by decide +kernel)) (fun _ _ _ _ _ => (pg_name (i := 5) sc__law_history.nd rfl (by first | exact Or.inl rfl | exact Or.inr rfl))) (fun _ _ _ _ _ => pts_nil) (fun _ _ _ _ _ => (pe_op (show OpR _ _ (rCatA K) from op_catA) (pe_tup (pa_cons (pe_dget (hu_of hr) (pv 8) (pe_tup (pa_cons (pv 5) (pa_cons pe_int pa_nil))) (fun _ _ => rfl)) (pa_cons (pe_dget (hu_of hr) (pv 8) (pe_tup (pa_cons (pv 5) (pa_cons pe_int pa_nil))) (fun _ _ => rfl)) pa_nil))) (pe_ix (show IxR _ (rIxL K) from ix_list) (pv 3) (pv 5) (fun _ _ => rfl)))))
        (pss_one (ps_ret (pe_tup (pa_cons (pe_callTy call_tuple_of (by rfl) T.tuple (by decide +kernel) (pa_cons (pv 1) pa_nil)) (pa_cons (pe_callTy call_tuple_of (by rfl) T.tuple (by decide +kernel) (pa_cons (pe_callB cr_sortF (by rfl) T.sorted (by decide +kernel) (pa_cons (pv 11) pa_nil)) pa_nil)) pa_nil)))))))))), ?_⟩
  simp only [cxK, cxK2, List.map_cons, List.map_nil]
  have nsv : noL (dSorts ss) = true := noLs_of fun x hx => by
    obtain ⟨s, _, rfl⟩ := List.mem_map.mp hx
    cases s <;> rfl
  have esw : j + 3 * n + 2 * n + 2 = (j + (2 * n + 2)) + 3 * n := by omega
  rw [esw] at sw
  -- the rows
  refine asgT_go (tup2_go (callA_go (ea_cons (ev_var rfl) (ea_cons (ev_var rfl) (ea_cons (ev_var rfl) ea_nil))) fun H0 e0 => ?_))
  refine ⟨sv, ss, n, j + (2 * n + 2), rfl, hsv.ex e0, hs0, by omega, hok, hn, sw.mono e0, fun rv H1 rs sts uss kp1 sw1 RF rl nrs hrv => ?_⟩
  refine (evn_lst (K := K) (ds := []) ead_nil (by show 0 ≤ 100000; decide)).go fun P4 v4 H2 hP4 e2 h4 hv4 => ⟨two_le, fun p hp => gtup2_go upd_same ?_⟩
  cases hv4
  have e12 : Ex H1 (upd H2 p (.tup [rv, .ref P4])) := e2.trans (Ex.new hp)
  have hb4 : ¬ z.bar P4 := fun hb => by
    obtain ⟨cs0, ls0, at0, hS0, hC0, hL0, _⟩ := sw1.ex
    rcases hb with rfl | rfl
    · rw [hS0] at hP4
      cases hP4
    · rw [hL0] at hP4
      cases hP4
  have hc4 : P4 ≠ z.C := fun e => by
    obtain ⟨cs0, ls0, at0, hS0, hC0, hL0, _⟩ := sw1.ex
    rw [e, hC0] at hP4
    cases hP4
  have h4' : upd H2 p (.tup [rv, .ref P4]) P4 = some (.lst []) := Ex.new hp _ _ h4
  have kp01 : Kp z.bar H H1 := (Kp.of e0).trans kp1
  have kpA : Kp z.bar H (upd H2 p (.tup [rv, .ref P4])) := ((Kp.of e0).trans kp1).trans (Kp.of e12)
  generalize upd H2 p (.tup [rv, .ref P4]) = H3 at e12 h4' kpA ⊢
  -- the ends
  refine q_forR1 (n := (n : Int)) (ea_cons (ev_var rfl) ea_nil) (by omega) (fun i σ' H' => (∃ o5, σ' = histSt z sv n rv (.ref P4) o5 [none, none, none, none, none, none]) ∧ Kp z.bar H1 H' ∧ SW z H' (j + 2 + 2 * (n - i)) ∧ ∃ vs es, H' P4 = some (.lst vs) ∧ DtAll K No H' vs (es.map tupI) ∧ EndsOk n i es)
    (fun H4 e4 => ⟨⟨_, rfl⟩, Kp.of (e12.trans e4), by
      have : j + 2 + 2 * (n - 0) = j + (2 * n + 2) := by omega
      rw [this]
      exact sw1.mono (e12.trans e4), [], [], e4 _ _ h4', .nil, EndsOk.nil⟩) (fun i σ' H' hi q => ?_) fun σ' H' q => ?_
  · obtain ⟨⟨o5, rfl⟩, kpH, swH, vs, es, hvs, hds, EO⟩ := q
    have hi' : i < n := by omega
    have ej : j + 2 + 2 * (n - i) = (j + 2 + 2 * (n - (i + 1)) + 1) + 1 := by omega
    rw [ej] at swH
    have vl : vs.length = 2 * i := by rw [hds.len, List.length_map, EO.len]
    refine end0_go (z := z) (k := i) rfl rfl rfl hvs swH (by omega) hb4 fun x H4 T0 x0 x1 kp4 sw4 hT0 => ?_
    have hp4 := kp4.k P4 _ hb4 hvs
    have hds4 := dtall_kp (noLs_tupIs es) kp4 hds
    have d1 : DtAll K No (upd (upd H4 T0 (.tup ([x, 0, (i : Int)].map V.int))) P4 (.lst (vs ++ [.ref T0]))) (vs ++ [.ref T0]) ((es ++ [[x, 0, (i : Int)]]).map tupI) := by
      rw [List.map_append]
      refine dtall_upd (by rw [← List.map_append]; exact noLs_tupIs _) (Ex.new hT0 _ _ hp4) ((hds4.ex (Ex.new hT0)).app (.cons (.tup (SqT.of upd_same) (DtAll.ints _)) .nil))
    have sw5 := (sw4.mono (Ex.new (o := .tup ([x, 0, (i : Int)].map V.int)) hT0)).mutp (o := .lst (vs ++ [.ref T0])) hb4 hc4
    have kp5 : Kp z.bar H1 (upd (upd H4 T0 (.tup ([x, 0, (i : Int)].map V.int))) P4 (.lst (vs ++ [.ref T0]))) := ((kpH.trans kp4).trans (Kp.of (Ex.new hT0))).mutp hP4
    refine end1_go (z := z) (k := i) (n := n) (acc := vs ++ [.ref T0]) rfl rfl rfl rfl hi' upd_same sw5 (by rw [List.length_append]; show vs.length + 1 < _; omega) hb4 fun y H6 T1 y0 y1 kp6 sw6 hT1 => ?_
    have hp6 := kp6.k P4 _ hb4 upd_same
    refine ⟨⟨_, rfl⟩, ((kp5.trans kp6).trans (Kp.of (Ex.new hT1))).mutp hP4, (sw6.mono (Ex.new hT1)).mutp hb4 hc4, vs ++ [.ref T0] ++ [.ref T1], es ++ [[x, 0, (i : Int)]] ++ [[y, 1, (i : Int)]], upd_same, ?_, EO.step x0 x1 y0 y1⟩
    rw [List.map_append]
    exact dtall_upd (by rw [← List.map_append]; exact noLs_tupIs _) (Ex.new hT1 _ _ hp6) (((dtall_kp (noLs_tupIs _) kp6 d1).ex (Ex.new hT1)).app (.cons (.tup (SqT.of upd_same) (DtAll.ints _)) .nil))
  · obtain ⟨⟨o5, rfl⟩, kpH, swH, vs, es, hvs, hds, EO⟩ := q
    rw [Int.toNat_natCast] at swH EO
    have ej : j + 2 + 2 * (n - n) = (j + 1) + 1 := by omega
    rw [ej] at swH
    refine asgT_go (tup3_go ?_)
    change tCall (spDraw z) [] C8.E0 (tCons (tVar 0) (tCons (tC (V.int 3)) tNil)) _ _ _
    refine draw_go (K := K) (j := j + 1) rfl swH ed_int (by decide) (by decide) fun r H4 r0 r1 kp4 sw4 => ⟨_, _, rfl, rfl, ?_⟩
    refine draw_go (K := K) (j := j) rfl sw4 ed_int (by decide) (by decide) fun at_ H5 a0 a1 kp5 sw5 PD hPD => ⟨by decide, fun TP hTP => gtup3_go upd_same ?_⟩
    have kpB := (kpH.trans kp4).trans kp5
    have hvs5 := kp5.k P4 _ hb4 (kp4.k P4 _ hb4 hvs)
    have hds5 := dtall_kp (noLs_tupIs es) kp5 (dtall_kp (noLs_tupIs es) kp4 hds)
    have e56 : Ex H5 (upd (upd H5 PD (.dT [])) TP (.tup [.int (1 + r), .int at_, .ref PD])) := (Ex.new hPD).trans (Ex.new hTP)
    have hD6 : upd (upd H5 PD (.dT [])) TP (.tup [.int (1 + r), .int at_, .ref PD]) PD = some (.dT []) := Ex.new hTP _ _ upd_same
    generalize upd (upd H5 PD (.dT [])) TP (.tup [.int (1 + r), .int at_, .ref PD]) = H6 at e56 hD6 ⊢
    have hnD : ∀ a o, H5 a = some o → a ≠ PD := fun a o h e => by
      rw [e, hPD] at h
      cases h
    have hbD : ¬ z.bar PD := fun hb => by
      obtain ⟨cs0, ls0, at0, hS0, hC0, hL0, _⟩ := sw5.ex
      rcases hb with e | e
      · exact hnD _ _ hS0 e.symm
      · exact hnD _ _ hL0 e.symm
    have hcD : PD ≠ z.C := fun e => by
      obtain ⟨cs0, ls0, at0, hS0, hC0, hL0, _⟩ := sw5.ex
      exact hnD _ _ hC0 e.symm
    have nD1 : H1 PD = none := by
      cases hh : H1 PD with
      | none => rfl
      | some o =>
        have := kpB.k PD _ hbD hh
        rw [hPD] at this
        cases this
    have el : es.length = 2 * n := EO.len
    -- the ends in order
    show (tCB (rSortU K 3 64) (tCons (tVar 4) tNil)) _ _ _
    refine sortU_go (es := es) (ev_var rfl) (e56 _ _ hvs5) (hds5.ex e56) (by omega) (fun z hz => ?_) fun PZ ys zs H7 e7 hPZ pz srt hys => ?_
    · obtain ⟨t, ht⟩ := List.getElem?_of_mem hz
      have hl := (List.getElem?_eq_some_iff.mp ht).1
      obtain ⟨x, hx, x0, x1⟩ := EO.shape (j := t) (by omega)
      rw [hx] at ht
      obtain rfl := Option.some.inj ht
      refine ⟨rfl, fun m hm => ?_⟩
      rcases List.mem_cons.mp hm with rfl | hm
      · omega
      · rcases List.mem_cons.mp hm with rfl | hm
        · omega
        · obtain rfl := List.mem_singleton.mp hm
          omega
    obtain ⟨B, E', MO, mo⟩ := moments_of (at_ := at_) (wide := 1 + r) hn EO pz srt a0 a1 (by omega) (by omega)
    have zl : zs.length = 2 * n := by rw [pz.length_eq, el]
    have nk : (zs.map keyE).Nodup := (pz.map keyE).nodup_iff.mpr EO.nodup
    have z3 : ∀ z ∈ zs, ∃ a b c : Int, z = [a, b, c] := fun z hz => by
      obtain ⟨t, ht⟩ := List.getElem?_of_mem (pz.mem_iff.mp hz)
      have hl := (List.getElem?_eq_some_iff.mp ht).1
      obtain ⟨x, hx, x0, x1⟩ := EO.shape (j := t) (by omega)
      rw [hx] at ht
      exact ⟨_, _, _, (Option.some.inj ht).symm⟩
    have yl : ys.length = zs.length := by rw [hys.len, List.length_map]
    have nPZ : PZ ≠ PD := fun e => by
      rw [e, e7 _ _ hD6] at hPZ
      cases hPZ
    refine ⟨PZ, ys, rfl, SqL.of upd_same, for_it (walk_enum (xs := ys)) (fun i σ' H' => (∃ o5 o9 o10, σ' = histSt z sv n rv (.ref P4) o5 [some (.int (1 + r)), some (.int at_), some (.ref PD), o9, o10, none]) ∧ Kp z.bar H1 H' ∧ SW z H' j ∧ H' PZ = some (.lst ys) ∧ DtAll K No H' ys (zs.map tupI) ∧ ∃ kvs, H' PD = some (.dT kvs) ∧ kvs.length ≤ i ∧ ∀ t, t < i → ∀ z, zs[t]? = some z → valV kvs (keyE z) = some (.int (at_ + (t : Int) * (1 + r))))
      ⟨⟨_, _, _, rfl⟩, (kpB.trans (Kp.of (e56.trans e7))).trans (Kp.of (Ex.new hPZ)), (sw5.mono (e56.trans e7)).mono (Ex.new hPZ), upd_same, hys.ex (Ex.new hPZ), [], Ex.new hPZ _ _ (e7 _ _ hD6), Nat.le_refl _, fun t ht => absurd ht (Nat.not_lt_zero t)⟩
      (fun i σ H _ q => SqL.of q.2.2.2.1) (fun i x σ H H' hi q y => ?_) fun σ' H' q => ?_⟩
    · obtain ⟨⟨o5', o9, o10, rfl⟩, kpq, swq, hPZq, hysq, kvs, hkv, kl, kg⟩ := q
      obtain ⟨T0, x0, y0, rfl, hT0, rfl, ex, ey⟩ := y
      obtain rfl := Option.some.inj ex
      obtain ⟨d, hdi, hyd⟩ := hysq.get ey
      rw [List.getElem?_map, Option.map_eq_some_iff] at hdi
      obtain ⟨zz, hzz, rfl⟩ := hdi
      obtain ⟨a, b, c, rfl⟩ := z3 zz (List.mem_of_getElem? hzz)
      obtain ⟨pz', xs', rfl, hs', hx'⟩ := (hyd.ex (Ex.new (o := .tup [.int (i : Nat), y0]) hT0)).toTup
      obtain rfl := DtAll.toInts (ns := [a, b, c]) hx'
      refine gtup2_go upd_same ⟨_, rfl, _, rfl, _, rfl, _, _, rfl, rfl, ?_, _, _, rfl, rfl, ?_⟩
      · exact .inl ⟨by omega, by omega⟩
      · refine ⟨_, rfl, _, rfl, ⟨pz', _, 2, .int c, rfl, rfl, hs', rfl, _, rfl, ⟨pz', _, 1, .int b, rfl, rfl, hs', rfl, two_le, fun q hq => ⟨PD, _, rfl, DPut.t (k := keyE [a, b, c]) (Ex.new hq _ _ (Ex.new hT0 _ _ hkv)) upd_same (sz_lt (by omega)), ?_⟩⟩⟩⟩
        have kq : Kp z.bar H (upd (upd H T0 (.tup [.int (i : Nat), .ref pz'])) q (.tup [.int c, .int b])) := Kp.of ((Ex.new hT0).trans (Ex.new hq))
        have eq2 : Ex H (upd (upd H T0 (.tup [.int (i : Nat), .ref pz'])) q (.tup [.int c, .int b])) := (Ex.new hT0).trans (Ex.new hq)
        refine ⟨⟨_, _, _, rfl⟩, (kpq.trans kq).mutp nD1, (swq.mono eq2).mutp hbD hcD, ?_, ?_, _, upd_same, ?_, fun t ht zt hzt => ?_⟩
        · rw [upd_ne nPZ]
          exact eq2 _ _ hPZq
        · have := hysq.ex eq2
          exact (this.any (noLs_tupIs zs) : DtAll K (fun b => b = PD) _ _ _).ke (kp_upd rfl (eq2 _ _ hkv) (fun _ z => by cases z) (fun z => by cases z) (fun _ _ z => by cases z)) |>.no
        · have := length_putK kvs (keyE [a, b, c]) (.int (at_ + (i : Int) * (1 + r)))
          exact Nat.le_trans this (by omega)
        · rw [valV_put]
          by_cases et : t = i
          · subst et
            rw [hzz] at hzt
            obtain rfl := Option.some.inj hzt
            rw [if_pos rfl]
          · rw [if_neg, kg t (by omega) zt hzt]
            intro e
            exact et (nodup_at nk (by rw [List.getElem?_map, hzt]; rfl) (by rw [List.getElem?_map, hzz, e]; rfl))
    · obtain ⟨⟨o5', o9, o10, rfl⟩, kpq, swq, hPZq, hysq, kvs, hkv, kl, kg⟩ := q
      rw [yl, zl] at kg
      have kgB : ∀ t, t < n → valV kvs [.inl (t : Int), .inl 0] = some (.int (B t)) := fun t ht => by
        obtain ⟨⟨i, zz, h1, h2, h3⟩, _⟩ := mo t ht
        have hl := (List.getElem?_eq_some_iff.mp h1).1
        rw [h3, ← h2]
        exact kg i (by omega) zz h1
      have kgE : ∀ t, t < n → valV kvs [.inl (t : Int), .inl 1] = some (.int (E' t)) := fun t ht => by
        obtain ⟨_, ⟨i, zz, h1, h2, h3⟩⟩ := mo t ht
        have hl := (List.getElem?_eq_some_iff.mp h1).1
        rw [h3, ← h2]
        exact kg i (by omega) zz h1
      have nrow : ∀ t, t < n → noL (rs.getD t ⟨0, "", .none, .none⟩).data = true := fun t ht => by
        have e : rs.getD t ⟨0, "", .none, .none⟩ = rs[t]'(by omega) := by simp [show t < rs.length by omega]
        rw [e]
        exact noLs_mem nrs (List.mem_map.mpr ⟨_, List.getElem_mem _, rfl⟩)
      have gl : ∀ t : Nat, t < n → noL (clOf B E' rs t).data = true := fun t ht => nrow t ht
      refine asg_go ((evn_is (lcR_map (K := K) (n := n) (j := 5) (fun d => (clOf B E' rs (toI d).toNat).data) (ead_cons (evd_var (d := .int (n : Int)) rfl (.int _)) ead_nil) (by omega) (fun t ht => gl t ht) fun t ht H8 e8 => ?_) (es := (calls0 n B E' rs).map Cl.data) ?_).go fun PF vf H8 hPF e8 hf hvf => ?_)
      · refine evd_cat (ds := [.int (B t), .int (E' t)]) (es := [.int _, .str _, _, _]) (evd_tup (ead_cons (ed_get2 rfl rfl (e8 _ _ hkv) (kgB t ht)) (ead_cons (ed_get2 rfl rfl (e8 _ _ hkv) (kgE t ht)) ead_nil)) (by show 2 ≤ 100000; decide)) ?_ (by show 2 + 4 ≤ 100000; decide)
        refine evd_ixL (ds := rs.map Rt.data) (evd_var rfl ((hrv.ke kpq).no.ex e8)) (ev_var rfl) (atI_of rfl ?_)
        rw [List.getElem?_map, show rs[t]? = some (rs.getD t ⟨0, "", .none, .none⟩) by simp [show t < rs.length by omega]]
        rfl
      · unfold rgD calls0
        rw [List.map_map, List.map_map]
        exact List.map_congr_left fun t _ => by
          show (clOf B E' rs (0 + (t : Int)).toNat).data = _
          rw [Int.zero_add, Int.toNat_natCast]
          rfl
      refine ret_go (pair_go (K := K) (d := dSorts ss) (ed_tuple (evd_var rfl ((kp_noL hsv nsv (kp01.trans kpq)).ex e8)) .t) fun vS H9 e9 hvS => ?_)
      show (tCB (rSortF K) (tCons (tVar 11) tNil)) _ _ _
      refine sortF_go (cs := calls0 n B E' rs) (ev_var rfl) (e9 _ _ hf) (hvf.ex e9) ?_ fun PG yg zg H10 e10 hPG pg sg hyg => ?_
      · have e : (calls0 n B E' rs).map Cl.b = (List.range n).map B := by
          unfold calls0
          rw [List.map_map]
          rfl
        rw [e]
        exact (List.nodup_append.mp MO.nd).1
      · refine ⟨PG, yg, rfl, .inl ⟨SqL.of upd_same, fun l hl => ⟨two_le, fun p hp => ?_⟩⟩⟩
        have eH : Ex H10 (upd (upd H10 PG (.lst yg)) l (.tup yg)) := (Ex.new hPG).trans (Ex.new hl)
        have eK : Ex H10 (upd (upd (upd H10 PG (.lst yg)) l (.tup yg)) p (.tup [vS, .ref l])) := eH.trans (Ex.new hp)
        refine k _ _ zg ((kp01.trans kpq).trans (Kp.of (((e8.trans e9).trans e10).trans eK))) (swq.mono (((e8.trans e9).trans e10).trans eK)) (hist_ok (by omega) hs1 hok hn RF rl MO pg sg) (fun c hc hw => Int.le_trans (low_of RF rl pg c hc hw) (by omega)) ?_
        exact pair_dt (d := dSorts ss) (e := dCalls zg) hp ((hvS.ex e10).ex eH) (.tup (SqT.of upd_same) (hyg.ex eH))
end
end SB
end

section
set_option Elab.async false
set_option linter.all false
set_option maxRecDepth 100000
set_option maxHeartbeats 2000000
set_option autoImplicit false
/-! SbL8: another told, a history that is bent. -/
namespace SB
open PySem PySem.Spec PyProof.Rows L2 Evl
abbrev s__law_other : Stmt := topS 54
abbrev N__law_other : List Str := ["_law_state", "_law_call", "_law_begin_here", "_law_end", "_law_thing", "_law_word_here", "_law_given", "_law_told_so"]
theorem sc__law_other : FnScope N__law_other ["_law_state", "_law_call"] (C8.fnScope s__law_other) := C8.fnScope_by (by decide +kernel)
abbrev s__law_bent : Stmt := topS 55
abbrev N__law_bent : List Str := ["_law_state", "_law_history_here", "_law_some", "_law_k", "_law_spot", "_law_word_here", "_law_takes", "_law_one", "_law_far", "_law_near", "_law_late"]
theorem sc__law_bent : FnScope N__law_bent ["_law_state", "_law_history_here"] (C8.fnScope s__law_bent) := C8.fnScope_by (by decide +kernel)
local macro_rules | `(tactic| walk_at "sd") => `(tactic| first | with_reducible rfl | assumption | exact SeqD.t | exact SeqD.l | rfl | omega)
local macro_rules | `(tactic| walk_at "dt") => `(tactic| first | assumption | exact Dt.int _ | exact Dt.bl _ | exact Dt.str _ | exact Dt.non | exact Dt.ex (by assumption) (by assumption))
local macro_rules | `(tactic| walk_at "ev") => `(tactic| first
  | assumption
  | with_reducible apply ed_int
  | with_reducible apply ed_str
  | with_reducible apply ed_bl
  | with_reducible apply ed_non
  | with_reducible apply ead_nil
  | with_reducible exact et_yes
  | with_reducible exact eo_none
  | exact evd_var rfl (by walk_at "dt")
  | ((with_reducible apply td_test); walk_at "ev")
  | ((with_reducible apply td_B); walk_at "ev")
  | ((with_reducible apply et_not); walk_at "ev")
  | ((with_reducible apply et_and); walk_at "ev"; intro _; walk_at "ev")
  | ((with_reducible apply et_or); walk_at "ev"; intro _; walk_at "ev")
  | ((with_reducible apply ead_cons); walk_at "ev"; walk_at "ev")
  | ((with_reducible apply eod_some); walk_at "ev")
  | ((with_reducible apply evd_tup); walk_at "ev"; first | decide | (focus (simp; done)) | omega)
  | ((with_reducible apply evd_lst); walk_at "ev"; first | decide | (focus (simp; done)) | omega)
  | ((with_reducible apply ed_not); walk_at "ev")
  | ((with_reducible apply ed_and); walk_at "ev"; intro _; walk_at "ev")
  | ((with_reducible apply ed_or); walk_at "ev"; intro _; walk_at "ev")
  | ((with_reducible apply ed_i0); walk_at "ev"; walk_at "ev")
  | ((with_reducible apply ed_b0); walk_at "ev"; walk_at "ev")
  | ((with_reducible apply ed_eqI); walk_at "ev"; walk_at "ev")
  | ((with_reducible apply ed_eqS); walk_at "ev"; walk_at "ev")
  | ((with_reducible apply ed_eqB); walk_at "ev"; walk_at "ev")
  | ((with_reducible apply ed_neI); walk_at "ev"; walk_at "ev")
  | ((with_reducible apply ed_neS); walk_at "ev"; walk_at "ev")
  | ((with_reducible apply ed_neB); walk_at "ev"; walk_at "ev")
  | ((with_reducible apply ed_isN); walk_at "ev"; walk_at "ev")
  | ((with_reducible apply ed_notN); walk_at "ev"; walk_at "ev")
  | ((with_reducible apply ed_chain); walk_at "ev"; walk_at "ev"; walk_at "ev")
  | ((with_reducible apply ed_ixT); walk_at "ev"; walk_at "ev"; walk_at "sd")
  | ((with_reducible apply ed_ixL); walk_at "ev"; walk_at "ev"; walk_at "sd")
  | ((with_reducible apply ed_isi); walk_at "ev"; (first | exact kit_int _ | exact kit_bool _ | exact kit_tuple _ | exact kit_str _))
  | ((with_reducible apply ed_len); walk_at "ev"; walk_at "sd")
  | ((with_reducible apply ed_call); walk_at "ev"; (first | assumption | exact ⟨_, rfl, rfl⟩ | exact ⟨_, _, rfl, rfl⟩ | exact ⟨_, _, _, rfl, rfl⟩); exact rfl)
  | ((with_reducible apply ed_max2); walk_at "ev"; walk_at "ev")
  | ((with_reducible apply ed_min2); walk_at "ev"; walk_at "ev")
  | ((with_reducible apply ed_list); walk_at "ev"; walk_at "sd")
  | ((with_reducible apply ed_tuple); walk_at "ev"; walk_at "sd")
  | ((with_reducible apply ed_neg); walk_at "ev"))

section
variable {K : PySem.W.Frag} {σ : L2.St} {H H' : Hp} {ta tb tc te : TE}
/-- draw(m) == 0 -/
theorem drawq_go (K : PySem.W.Frag) {z : Sp3} {i j : Nat} {m : Int} {Q : Bool → Hp → Prop} (hS : σ[i]? = some (some (.ref z.S))) (sw : SW z H (j + 1)) (h0 : 0 < m) (h1 : m ≤ 1000000) (q : ∀ b H2, Kp z.bar H H2 → SW z H2 j → Q b H2) :
    tTest (tOp rEq (tCall (spDraw z) [] C8.E0 (tCons (tVar i) (tCons (tC (.int m)) tNil))) (tC (.int 0))) σ H Q :=
  draw_go (K := K) (Q := fun x H1 => rEq x (.int 0) H1 fun x H' => ∃ k, x = .bl k ∧ Q k H') hS sw ed_int h0 h1 fun r H2 r0 r1 kp s2 => ⟨rfl, _, rfl, q _ H2 kp s2⟩
theorem unp6_go {a b c d e f : Nat} {v : V} {d1 d2 d3 d4 d5 d6 : PyData} {R : L2.St → Hp → Prop} (hv : Dt K No H v (.tuple [d1, d2, d3, d4, d5, d6])) (k : ∀ v1 v2 v3 v4 v5 v6, Dt K No H v1 d1 → Dt K No H v2 d2 → Dt K No H v3 d3 → Dt K No H v4 d4 → Dt K No H v5 d5 → Dt K No H v6 d6 → R ((((((σ.set a (some v1)).set b (some v2)).set c (some v3)).set d (some v4)).set e (some v5)).set f (some v6)) H) :
    gTup K 6 (gCons (gName a) (gCons (gName b) (gCons (gName c) (gCons (gName d) (gCons (gName e) (gCons (gName f) gNil)))))) v σ H R := by
  obtain ⟨p, xs, rfl, hs, hd⟩ := hv.toTup
  cases hd with
  | cons h1 hd =>
  cases hd with
  | cons h2 hd =>
  cases hd with
  | cons h3 hd =>
  cases hd with
  | cons h4 hd =>
  cases hd with
  | cons h5 hd =>
  cases hd with
  | cons h6 hd =>
  cases hd
  exact ⟨p, _, rfl, hs, rfl, _, _, rfl, _, _, rfl, _, _, rfl, _, _, rfl, _, _, rfl, _, _, rfl, rfl, k _ _ _ _ _ _ h1 h2 h3 h4 h5 h6⟩
theorem SW.nbar {z : Sp3} {j : Nat} {p : Addr} (sw : SW z H j) (hp : H p = none) : ¬ z.bar p := fun hb => by
  obtain ⟨cs0, ls0, at0, hS0, hC0, hL0, _⟩ := sw.ex
  rcases hb with rfl | rfl
  · rw [hS0] at hp
    cases hp
  · rw [hL0] at hp
    cases hp
theorem SW.nC {z : Sp3} {j : Nat} {p : Addr} (sw : SW z H j) (hp : H p = none) : p ≠ z.C := fun e => by
  obtain ⟨cs0, ls0, at0, hS0, hC0, hL0, _⟩ := sw.ex
  rw [e, hC0] at hp
  cases hp
theorem evn_lcEnumL {gt : TG} {t : TT} {vs : List Nat} {ds : List PyData} (f : PyData → Bool) (g : PyData → PyData) (h : EvD K ta σ H (.list ds)) (hz : ds.length ≤ 40000)
    (tk : ∀ d ∈ enumD ds, ∀ H1, Ex H H1 → TkW K σ gt t te vs H1 d (f d) (g d)) : EvN K (tLc (iEnum K (tCons ta tNil)) gt t te vs) σ H (fm f g (enumD ds)) := fun H0 a Q q =>
  h H0 a _ fun x H1 b hx => by
    obtain ⟨p, xs, rfl, hs, _, hd⟩ := hx.toLst
    exact ⟨p, xs, rfl, hs, evn_it f g b (WalkD.enumL hs hd) (by rw [enumD_len]; exact hz) q fun d hd => tk d hd H1 (a.trans b)⟩
theorem set_go {i jx k : Nat} {p : Addr} {xs : List V} {v : V} {R : L2.St → Hp → Prop} (hi : σ[i]? = some (some (.ref p))) (hj : σ[jx]? = some (some (.int (k : Int)))) (hp : H p = some (.lst xs)) (hk : k < xs.length) (q : R σ (upd H p (.lst (xs.set k v)))) :
    gSub (tVar i) (tVar jx) rSetL v σ H R := ⟨_, hi, _, hj, p, xs, k, k, rfl, rfl, hp, ixN_nat hk, q⟩
end
theorem canTell_has {t : PyData} (h : canTell "has" t = true) : ∃ i, t = .int i ∧ (i = 0 ∨ i = 1) := by
  have h : (isInt t && decide (toI t ∈ ([0, 1] : List Int))) = true := h
  rw [Bool.and_eq_true, decide_eq_true_iff] at h
  refine ⟨toI t, isInt_is h.1, ?_⟩
  have := h.2
  simpa using this
theorem canTell_num {w : Str} {t : PyData} (hw : w ∈ NUM) (h : canTell w t = true) : ∃ i, t = .int i ∧ 0 ≤ i ∧ i ≤ 1000000 := by
  have : w = "count" ∨ w = "draw" := by simpa [NUM] using hw
  have h : isVal t = true := by rcases this with rfl | rfl <;> exact h
  cases t with
  | int i =>
    have h : (decide (0 ≤ i) && decide (i ≤ 1000000)) = true := h
    rw [Bool.and_eq_true, decide_eq_true_iff, decide_eq_true_iff] at h
    exact ⟨i, rfl, h.1, h.2⟩
  | _ => cases h
section
variable {P : Program} {w : World} {K : PySem.W.Frag} {mg : Str → Option Value} {base : Heap} {A0 : Ad}
def spOther (K : PySem.W.Frag) (z : Sp3) : Sp := fun vs H Q _ => ∃ v c j, vs = [.ref z.S, v] ∧ Dt K No H v (Cl.data c) ∧ canTell c.wo c.told = true ∧ (c.wo ∈ NUM → toI c.told ≤ 1000) ∧ SW z H (j + 2) ∧
  ∀ u H' t, Kp z.bar H H' → SW z H' j → canTell c.wo t = true → (c.wo ∈ NUM → toI t ≤ toI c.told + 1) → Dt K No H' u t → Q u H'
theorem c__law_other (T : Tx A0 K w mg) (z : Sp3) : C8.Cal P w K mg base 3 "_law_other" (spOther K z) [] := by
  have c__law_draw := c__law_draw (P := P) (base := base) T z
  refine cal_of T.d__law_other sc__law_other (fun vs H Q E h => by obtain ⟨v, c, j, rfl, _⟩ := h; rfl) (fun f cdv A outer s H vs Q E hr h => ?_)
  obtain ⟨v, c, j, rfl, hv, ct, cl, sw, k⟩ := h
  refine ⟨_, (pss_cons (ps_asg (pv 1) (pg_tup rfl (pgs_cons (pg_name (i := 2) sc__law_other.nd rfl (by first | exact Or.inl rfl | exact Or.inr rfl)) (pgs_cons (pg_name (i := 3) sc__law_other.nd rfl (by first | exact Or.inl rfl | exact Or.inr rfl)) (pgs_cons (pg_name (i := 4) sc__law_other.nd rfl (by first | exact Or.inl rfl | exact Or.inr rfl)) (pgs_cons (pg_name (i := 5) sc__law_other.nd rfl (by first | exact Or.inl rfl | exact Or.inr rfl)) (pgs_cons (pg_name (i := 6) sc__law_other.nd rfl (by first | exact Or.inl rfl | exact Or.inr rfl)) (pgs_cons (pg_name (i := 7) sc__law_other.nd rfl (by first | exact Or.inl rfl | exact Or.inr rfl)) pgs_nil))))))))
        (pss_cons (ps_if (pt_cmpR op_eq (pv 5) pe_str (nomark _)) (pss_one (ps_ret (pe_op op_sub pe_int (pv 7)))) pss_nil)
        (pss_cons (ps_if (pt_cmpR op_in_seq (pv 5) (pe_tup (pa_cons pe_str (pa_cons pe_str pa_nil))) (by rfl)) (pss_one (ps_ret (pe_ifExp (pt_cmpR op_eq (C8.pe_c c__law_draw hr (by decide) (by rfl) (pa_cons (pv 0) (pa_cons pe_int pa_nil))) pe_int (nomark _)) (pe_callB (call_max2 rfl) (by rfl) T.max (by decide +kernel) (pa_cons pe_int (pa_cons (pe_op op_sub (pv 7) pe_int) pa_nil))) (pe_op op_add (pv 7) pe_int)))) pss_nil)
        (pss_cons (ps_if (pt_cmpR op_in_seq (pv 5) (pe_tup (pa_cons pe_str (pa_cons pe_str pa_nil))) (by rfl)) (pss_one (ps_ret (pe_ifExp (pt_cmpR op_eq (C8.pe_c c__law_draw hr (by decide) (by rfl) (pa_cons (pv 0) (pa_cons pe_int pa_nil))) pe_int (nomark _)) pe_non (C8.pe_c c__law_draw hr (by decide) (by rfl) (pa_cons (pv 0) (pa_cons pe_int pa_nil)))))) pss_nil)
        (pss_one (ps_ret (pv 7))))))), ?_⟩
  simp only [cxK, cxK2, List.map_cons, List.map_nil]
  obtain ⟨cb, ce, cth, wo, giv, told⟩ := c
  refine asgT_go ⟨_, rfl, unp6_go hv fun v1 v2 v3 v4 v5 v6 h1 h2 h3 h4 h5 h6 => ?_⟩
  obtain rfl := h4.toStr
  refine q_when (b := decide (wo = "has")) (td_test (K := K) (ed_eqS (evd_var (d := .str wo) rfl (.str _)) ed_str)) (fun hb H1 e1 => ?_) fun hb H1 e1 => ?_
  · obtain rfl := of_decide_eq_true hb
    obtain ⟨i, rfl, hi⟩ := canTell_has ct
    obtain rfl := h6.toInt
    refine ret_go ⟨_, rfl, 1, i, rfl, rfl, k _ _ (.int (1 - i)) (Kp.of e1) ((sw.mono e1).le (by omega)) ?_ (fun z => absurd z (show ("has" : Str) ∉ NUM by decide)) (.int _)⟩
    rcases hi with rfl | rfl <;> rfl
  refine q_when (b := decide (wo ∈ NUM)) (td_test (K := K) (ed_inS (ns := NUM) (evd_var (d := .str wo) rfl (.str _)) (evd_tup (ead_cons ed_str (ead_cons ed_str ead_nil)) (by show 2 ≤ 100000; decide)))) (fun hb2 H2 e2 => ?_) fun hb2 H2 e2 => ?_
  · have hw := of_decide_eq_true hb2
    obtain ⟨i, rfl, i0, i1⟩ := canTell_num hw ct
    obtain rfl := h6.toInt
    have i2 : i ≤ 1000 := cl hw
    refine ret_go (drawq_go K (j := j + 1) rfl ((sw.mono e1).mono e2) (by decide) (by decide) fun b H3 kp s3 => ?_)
    have kpa : Kp z.bar H H3 := (Kp.of (e1.trans e2)).trans kp
    cases b with
    | true =>
      refine ⟨_, rfl, i, 1, rfl, rfl, 0, i - 1, rfl, k _ _ (.int (if i - 1 > 0 then i - 1 else 0)) kpa (s3.le (by omega)) (canTell_ask (.inr hw) (by split <;> omega) (by split <;> omega)) (fun _ => ?_) (.int _)⟩
      show (if i - 1 > 0 then i - 1 else 0) ≤ i + 1
      split <;> omega
    | false =>
      exact ⟨_, rfl, i, 1, rfl, rfl, k _ _ (.int (i + 1)) kpa (s3.le (by omega)) (canTell_ask (.inr hw) (by omega) (by omega)) (fun _ => Int.le_refl _) (.int _)⟩
  refine q_when (b := decide (wo ∈ ASK)) (td_test (K := K) (ed_inS (ns := ASK) (evd_var (d := .str wo) rfl (.str _)) (evd_tup (ead_cons ed_str (ead_cons ed_str ead_nil)) (by show 2 ≤ 100000; decide)))) (fun hb3 H3 e3 => ?_) fun hb3 H3 e3 => ?_
  · have hw := of_decide_eq_true hb3
    have nn : wo ∉ NUM := of_decide_eq_false hb2
    refine ret_go (drawq_go K (j := j + 1) rfl (((sw.mono e1).mono e2).mono e3) (by decide) (by decide) fun b H4 kp s4 => ?_)
    have kpa : Kp z.bar H H4 := (Kp.of ((e1.trans e2).trans e3)).trans kp
    cases b with
    | true => exact k _ _ .none kpa (s4.le (by omega)) (canTell_none ⟨nn, of_decide_eq_false hb⟩) (fun z => absurd z nn) .non
    | false =>
      exact draw_go (K := K) (j := j) rfl s4 ed_int (by decide) (by decide) fun r H5 r0 r1 kp5 s5 => k _ _ (.int r) (kpa.trans kp5) s5 (canTell_ask (.inl hw) r0 (by omega)) (fun z => absurd z nn) (.int _)
  · exact ret_go ⟨_, rfl, k _ _ told (Kp.of ((e1.trans e2).trans e3)) ((((sw.mono e1).mono e2).mono e3).le (by omega)) ct (fun _ => by show toI told ≤ toI told + 1; omega) (((h6.ex e1).ex e2).ex e3)⟩
end
/-- what a told cannot change -/
def key5 (c : Cl) : Int × Int × Int × Str × PyData := (c.b, c.e, c.th, c.wo, c.giv)
theorem hist_same {ss : List Srt} {cs cs' : List Cl} (h : HistOk ss cs) (k : cs'.map key5 = cs.map key5) (ct : ∀ c ∈ cs', canTell c.wo c.told = true) : HistOk ss cs' := by
  have len : cs'.length = cs.length := by
    have := congrArg List.length k
    rwa [List.length_map, List.length_map] at this
  have at_ : ∀ (i : Nat) (c' : Cl), cs'[i]? = some c' → ∃ c, cs[i]? = some c ∧ key5 c' = key5 c := fun i c' hc => by
    have := congrArg (fun l => l[i]?) k
    simp only [List.getElem?_map, hc] at this
    obtain ⟨c, h1, h2⟩ := Option.map_eq_some_iff.mp this.symm
    exact ⟨c, h1, h2.symm⟩
  have mp : ∀ {β : Type} (f : Int × Int × Int × Str × PyData → β), cs'.map (fun c => f (key5 c)) = cs.map fun c => f (key5 c) := fun f => by
    have := congrArg (List.map f) k
    rwa [List.map_map, List.map_map] at this
  refine ⟨h.s1, h.s4, h.so, by rw [len]; exact h.c10, fun c hc => ?_, ?_, fun i c d h1 h2 => ?_, ?_⟩
  · obtain ⟨i, hi⟩ := List.getElem?_of_mem hc
    obtain ⟨c0, h0, e⟩ := at_ i c hi
    have o := h.co c0 (List.mem_of_getElem? h0)
    obtain ⟨cb, ce, cth, wo, giv, told⟩ := c
    obtain ⟨cb0, ce0, cth0, wo0, giv0, told0⟩ := c0
    simp only [key5, Prod.mk.injEq] at e
    obtain ⟨rfl, rfl, rfl, rfl, rfl⟩ := e
    exact ⟨o.b0, o.be, o.e1, o.at_, o.gv, ct _ hc⟩
  · have e : moments cs' = moments cs := by
      unfold moments
      rw [show cs'.map Cl.b = cs.map Cl.b from mp fun t => t.1, show cs'.map Cl.e = cs.map Cl.e from mp fun t => t.2.1]
    rw [e]
    exact h.md
  · obtain ⟨c0, h10, e1⟩ := at_ i c h1
    obtain ⟨d0, h20, e2⟩ := at_ (i + 1) d h2
    have e1 : c.b = c0.b := congrArg (fun t => t.1) e1
    have e2 : d.b = d0.b := congrArg (fun t => t.1) e2
    rw [e1, e2]
    exact h.up i c0 d0 h10 h20
  · have e : giverKeys cs' = giverKeys cs := by
      have m1 : ∀ l : List Cl, giverKeys l = ((l.map key5).filter fun t => decide (t.2.2.2.1 ∈ GIV)).map fun t => [.inl t.2.2.1, .inr t.2.2.2.1, .inl (toI t.2.2.2.2)] := fun l => by
        rw [List.filter_map, List.map_map]
        rfl
      rw [m1, m1, k]
    rw [e]
    exact h.gd
theorem key5_set {cs cs' : List Cl} {k : Nat} {c c' : Cl} (h : cs'.map key5 = cs.map key5) (hc : cs'[k]? = some c) (e : key5 c' = key5 c) : (cs'.set k c').map key5 = cs.map key5 := by
  rw [List.map_set, e, ← h]
  exact list_set_same (by rw [List.getElem?_map, hc]; rfl)
theorem mem_set_of {α : Type} {l : List α} {k : Nat} {x y : α} (h : y ∈ l.set k x) : y = x ∨ y ∈ l := by
  rcases List.mem_or_eq_of_mem_set h with h | h
  · exact .inr h
  · exact .inl h
section
variable {P : Program} {w : World} {K : PySem.W.Frag} {mg : Str → Option Value} {base : Heap} {A0 : Ad}
structure BentH (K : PySem.W.Frag) (z : Sp3) (H0 : Hp) (p : Addr) (ss : List Srt) (cs cs' : List Cl) (m : Int) (H : Hp) : Prop where
  ok : HistOk ss cs
  new : H0 p = none
  kp : Kp z.bar H0 H
  lst : ∃ vs, H p = some (.lst vs) ∧ DtAll K No H vs (cs'.map Cl.data)
  key : cs'.map key5 = cs.map key5
  ct : ∀ c ∈ cs', canTell c.wo c.told = true
  low : Low m cs'
theorem HistOk.noLs {ss : List Srt} {cs : List Cl} (h : HistOk ss cs) : noL.noLs (cs.map Cl.data) = true := noLs_of fun x hx => by
  obtain ⟨c, hc, rfl⟩ := List.mem_map.mp hx
  exact (h.co c hc).noL
section
variable {z : Sp3} {H0 H H' : Hp} {p : Addr} {ss : List Srt} {cs cs' : List Cl} {m : Int}
theorem BentH.ok' (h : BentH K z H0 p ss cs cs' m H) : HistOk ss cs' := hist_same h.ok h.key h.ct
theorem BentH.len (h : BentH K z H0 p ss cs cs' m H) : cs'.length = cs.length := by
  have := congrArg List.length h.key
  rwa [List.length_map, List.length_map] at this
theorem BentH.kp' (h : BentH K z H0 p ss cs cs' m H) (hb : ¬ z.bar p) (x : Kp z.bar H H') : BentH K z H0 p ss cs cs' m H' := by
  obtain ⟨vs, h1, h2⟩ := h.lst
  exact ⟨h.ok, h.new, h.kp.trans x, ⟨vs, x.k _ _ hb h1, dtall_kp h.ok'.noLs x h2⟩, h.key, h.ct, h.low⟩
theorem BentH.set {k : Nat} {c c' : Cl} {v : V} {vs : List V} {m' : Int} (h : BentH K z H0 p ss cs cs' m H) (hp : H p = some (.lst vs)) (hc : cs'[k]? = some c) (e : key5 c' = key5 c) (ct : canTell c'.wo c'.told = true) (hm : m ≤ m') (lo : c'.wo ∈ NUM → toI c'.told ≤ m') (hv : Dt K No H v c'.data) :
    BentH K z H0 p ss cs (cs'.set k c') m' (upd H p (.lst (vs.set k v))) := by
  obtain ⟨vs', h1, h2⟩ := h.lst
  rw [hp] at h1
  obtain rfl := HO.lst.inj (Option.some.inj h1)
  have key := key5_set h.key hc e
  have ct' : ∀ c ∈ cs'.set k c', canTell c.wo c.told = true := fun d hd => by
    rcases mem_set_of hd with rfl | hd
    · exact ct
    · exact h.ct d hd
  refine ⟨h.ok, h.new, h.kp.mutp h.new, ⟨_, upd_same, ?_⟩, key, ct', fun d hd hw => ?_⟩
  · rw [List.map_set]
    exact dtall_upd (by rw [← List.map_set]; exact (hist_same h.ok key ct').noLs) hp (DtAll.set hv k h2)
  · rcases mem_set_of hd with rfl | hd
    · exact lo hw
    · exact Int.le_trans (h.low d hd hw) hm
theorem BentH.up {m' : Int} (h : BentH K z H0 p ss cs cs' m H) (l : m ≤ m') : BentH K z H0 p ss cs cs' m' H := ⟨h.ok, h.new, h.kp, h.lst, h.key, h.ct, fun c hc hw => Int.le_trans (h.low c hc hw) l⟩
theorem BentH.at' (h : BentH K z H0 p ss cs cs' m H) {q : Nat} (hq : q < cs'.length) : ∃ c vs v, cs'[q]? = some c ∧ c ∈ cs' ∧ H p = some (.lst vs) ∧ vs.length = cs'.length ∧ vs[q]? = some v ∧ Dt K No H v c.data := by
  obtain ⟨vs, h1, h2⟩ := h.lst
  have hc : cs'[q]? = some cs'[q] := by simp [hq]
  obtain ⟨v, hv, hd⟩ := h2.at (i := q) (d := cs'[q].data) (by rw [List.getElem?_map, hc]; rfl)
  exact ⟨_, vs, v, hc, List.getElem_mem _, h1, by rw [h2.len, List.length_map], hv, hd⟩
theorem BentH.dt (h : BentH K z H0 p ss cs cs' m H) : Dt K No H (.ref p) (.list (cs'.map Cl.data)) := by
  obtain ⟨vs, h1, h2⟩ := h.lst
  exact .lst h1 (fun z => z) h2
end
def spBent (K : PySem.W.Frag) (z : Sp3) : Sp := fun vs H Q _ => ∃ v ss cs j, vs = [.ref z.S, v] ∧ Dt K No H v (dHist ss cs) ∧ HistOk ss cs ∧ Low 10 cs ∧ SW z H (j + 10) ∧
  ∀ u H' cs', Kp z.bar H H' → SW z H' j → HistOk ss cs' → Dt K No H' u (dHist ss cs') → Q u H'
def isWo (wo : Str) : PyData → Bool
  | .tuple [_, .tuple [_, _, _, .str x, _, _]] => decide (x = wo)
  | _ => false
def fst2 : PyData → PyData
  | .tuple [x, _] => x
  | _ => .none
def bentSt (z : Sp3) (v : V) (p : Addr) (rest : List (Option V)) : L2.St := [some (.ref z.S), some v, some (.ref p)] ++ rest
theorem c__law_bent (T : Tx A0 K w mg) (z : Sp3) : C8.Cal P w K mg base 4 "_law_bent" (spBent K z) [] := by
  have c__law_draw := c__law_draw (P := P) (base := base) T z
  have c__law_of := c__law_of (P := P) (base := base) T z
  have c__law_other := c__law_other (P := P) (base := base) T z
  refine cal_of T.d__law_bent sc__law_bent (fun vs H Q E h => by obtain ⟨v, ss, cs, j, rfl, _⟩ := h; rfl) (fun f cdv A outer s H vs Q E hr h => ?_)
  obtain ⟨v, ss, cs, j, rfl, hv, ok, low, sw, k⟩ := h
  refine ⟨_, (pss_cons (ps_set (i := 2) sc__law_bent.nd rfl (by first | exact Or.inl rfl | exact Or.inr rfl) (pe_callTy call_list_of (by rfl) T.list (by decide +kernel) (pa_cons (pe_ix ix_tup (pv 1) pe_int (fun _ _ => rfl)) pa_nil)))
        (pss_cons (ps_for PassesOwn.never rfl (pi_range1 (by rfl) T.range (pa_cons (pe_op op_add pe_int (C8.pe_c c__law_draw hr (by decide) (by rfl) (pa_cons (pv 0) (pa_cons pe_int pa_nil)))) pa_nil)) (pg_name (i := 3) sc__law_bent.nd rfl (by first | exact Or.inl rfl | exact Or.inr rfl)) (pss_cons (ps_set (i := 4) sc__law_bent.nd rfl (by first | exact Or.inl rfl | exact Or.inr rfl) (C8.pe_c c__law_draw hr (by decide) (by rfl) (pa_cons (pv 0) (pa_cons (pe_callB (call_max2 rfl) (by rfl) T.max (by decide +kernel) (pa_cons pe_int (pa_cons (pe_callB call_len_seq (by rfl) T.len (by decide +kernel) (pa_cons (pv 2) pa_nil)) pa_nil))) pa_nil))))
          (pss_one (ps_if (pt_cmpR op_lt (pv 4) (pe_callB call_len_seq (by rfl) T.len (by decide +kernel) (pa_cons (pv 2) pa_nil)) (nomark _)) (pss_one (ps_asg (pe_op op_catA (pe_slice sl_tupA (pe_ix ix_list (pv 2) (pv 4) (fun _ _ => rfl)) po_none (po_some pe_int)) (pe_tup (pa_cons (C8.pe_c c__law_other hr (by decide) (by rfl) (pa_cons (pv 0) (pa_cons (pe_ix ix_list (pv 2) (pv 4) (fun _ _ => rfl)) pa_nil))) pa_nil))) (pg_sub (pv 2) (pv 4) set_list))) pss_nil))))
        (pss_cons (ps_set (i := 5) sc__law_bent.nd rfl (by first | exact Or.inl rfl | exact Or.inr rfl) (C8.pe_c c__law_of hr (by decide) (by rfl) (pa_cons (pv 0) (pa_cons (pe_lst (pa_cons pe_str (pa_cons pe_str (pa_cons pe_str (pa_cons pe_str pa_nil))))) pa_nil))))
        (pss_cons (ps_setLc (i := 6) (own := [("_law_k", 3), ("_law_one", 7)]) (by rfl) sc__law_bent.nd rfl rfl (sw_true rfl rfl rfl (by decide +kernel)) (pi_enum (by rfl) T.enumerate (pa_cons (pv 2) pa_nil)) (blkOk_by (N := N__law_bent) (sc := (C8.fnScope s__law_bent)) (by decide +kernel)) (fun _ _ _ _ _ => (show PG _ _ (gTup K 2 _) from pg_tup rfl (pgs_cons (pg_name (i := 3) sc__law_bent.nd rfl (by first | exact Or.inl rfl | exact Or.inr rfl)) (pgs_cons (pg_name (i := 7) sc__law_bent.nd rfl (by first | exact Or.inl rfl | exact Or.inr rfl)) pgs_nil)))) (fun _ _ _ _ _ => (pts_one (pt_cmpR op_eq (pe_ix (show IxR _ (rIxT K) from ix_tup) (pv 7) pe_int (fun _ _ => rfl)) (pv 5) (nomark _)))) (fun _ _ _ _ _ => (pv 3)))
        (pss_cons (ps_if (PW.pt (pw_and (pt_cmpR op_gt (pe_callB call_len_seq (by rfl) T.len (by decide +kernel) (pa_cons (pv 6) pa_nil)) pe_int (nomark _)) (pw_and1 (pt_cmpR op_eq (C8.pe_c c__law_draw hr (by decide) (by rfl) (pa_cons (pv 0) (pa_cons pe_int pa_nil))) pe_int (nomark _))))) (pss_cons (ps_par (i := 7) (j := 8) (by rfl) sc__law_bent.nd rfl rfl (by decide) rfl rfl (pa_cons (pe_ix ix_list (pv 6) pe_int (fun _ _ => rfl)) (pa_cons (pe_ix ix_list (pv 6) (pe_op op_add pe_int (C8.pe_c c__law_draw hr (by decide) (by rfl) (pa_cons (pv 0) (pa_cons (pe_op op_sub (pe_callB call_len_seq (by rfl) T.len (by decide +kernel) (pa_cons (pv 6) pa_nil)) pe_int) pa_nil)))) (fun _ _ => rfl)) pa_nil)) (by rfl))
          (pss_cons (ps_par (i := 9) (j := 10) (by rfl) sc__law_bent.nd rfl rfl (by decide) rfl rfl (pa_cons (pe_ix ix_list (pv 2) (pv 7) (fun _ _ => rfl)) (pa_cons (pe_ix ix_list (pv 2) (pv 8) (fun _ _ => rfl)) pa_nil)) (by rfl))
          (pss_cons (ps_asg (pe_op op_catA (pe_slice sl_tupA (pv 9) po_none (po_some pe_int)) (pe_slice sl_tupA (pv 10) (po_some pe_int) po_none)) (pg_sub (pv 2) (pv 7) set_list))
          (pss_one (ps_asg (pe_op op_catA (pe_slice sl_tupA (pv 10) po_none (po_some pe_int)) (pe_slice sl_tupA (pv 9) (po_some pe_int) po_none)) (pg_sub (pv 2) (pv 8) set_list)))))) pss_nil)
        (pss_one (ps_ret (pe_tup (pa_cons (pe_ix ix_tup (pv 1) pe_int (fun _ _ => rfl)) (pa_cons (pe_callTy call_tuple_of (by rfl) T.tuple (by decide +kernel) (pa_cons (pv 2) pa_nil)) pa_nil)))))))))), ?_⟩
  simp only [cxK, cxK2, List.map_cons, List.map_nil]
  have nh : noL (dHist ss cs) = true := by
    show (noL (dSorts ss) && (noL (dCalls cs) && true)) = true
    rw [show noL (dSorts ss) = true from noLs_of fun x hx => by
      obtain ⟨s, _, rfl⟩ := List.mem_map.mp hx
      cases s <;> rfl, show noL (dCalls cs) = true from ok.noLs]
    rfl
  have hvt : Dt K No H v (.tuple [dSorts ss, dCalls cs]) := hv
  refine asg_go ((evn_list (K := K) (ds := cs.map Cl.data) (ed_ixT (i := 1) (d := dCalls cs) (evd_var rfl hvt) ed_int rfl) .t).go fun p vs0 H1 hp e1 h1 hd1 => ?_)
  have hb : ¬ z.bar p := sw.nbar hp
  have hc : p ≠ z.C := sw.nC hp
  have B0 : BentH K z H p ss cs cs 10 H1 := ⟨ok, hp, Kp.of e1, ⟨vs0, h1, hd1⟩, rfl, fun c hc => (ok.co c hc).tl, low⟩
  -- one or two are told otherwise
  change tCall (spDraw z) [] C8.E0 (tCons (tVar 0) (tCons (tC (V.int 2)) tNil)) _ _ _
  refine draw_go (K := K) (j := j + 9) rfl (sw.mono e1) ed_int (by decide) (by decide) fun r H2 r0 r1 kp2 sw2 => ⟨_, _, rfl, rfl, _, rfl, by omega, by omega, for_it walk_range (fun i σ' H' => (∃ o3 o4, σ' = bentSt z v p [o3, o4, none, none, none, none, none, none]) ∧ SW z H' (j + 3 + 3 * (2 - i)) ∧ ∃ cs', BentH K z H p ss cs cs' (10 + i) H')
    ⟨⟨_, _, rfl⟩, sw2, cs, (B0.kp' hb kp2).up (by omega)⟩ (fun _ _ _ _ _ => trivial) (fun i x σ' H' H'' hi q y => ?_) fun σ' H' q => ?_⟩
  · obtain ⟨⟨o3, o4, rfl⟩, swq, cs', B⟩ := q
    obtain ⟨rfl, rfl⟩ := y
    have hi2 : i < 2 := by omega
    rw [show j + 3 + 3 * (2 - i) = (j + 3 + 3 * (2 - (i + 1)) + 2) + 1 by omega] at swq
    have tl : cs'.length ≤ 10 := B.ok'.c10
    refine asg_go (draw_go (K := K) (j := j + 3 + 3 * (2 - (i + 1)) + 2) rfl swq (ed_max2 ed_int (ed_len (evd_var rfl B.dt) .l)) (by split <;> omega) (by rw [List.length_map]; split <;> omega) fun r H3 r0 r1 kp3 sw3 => ?_)
    obtain ⟨q, rfl⟩ : ∃ q : Nat, r = (q : Int) := ⟨r.toNat, by omega⟩
    have B3 := B.kp' hb kp3
    refine s_when (b := decide ((q : Int) < ((cs'.map Cl.data).length : Int))) (td_test (K := K) (ed_b0 (g := fun i j => decide (i < j)) (evd_var (d := .int (q : Int)) rfl (.int _)) (ed_len (evd_var rfl B3.dt) .l))) (fun hq H4 e4 => ?_) fun hq H4 e4 => ?_
    · have hq := of_decide_eq_true hq
      rw [List.length_map] at hq
      have hq : q < cs'.length := by omega
      have B4 := B3.kp' hb (Kp.of e4)
      obtain ⟨c, vs, v1, hcq, hcm, hvs, hvl, hv1, hd1⟩ := B4.at' hq
      change tOp (rCatA K) _ _ _ _ _
      refine op_go ((sl_to (K := K) (k := 5) (ds := c.items) (evd_ixL (evd_var rfl B4.dt) (ev_var rfl) (atI_of rfl (by rw [List.getElem?_map, hcq]; rfl))) ed_int).go fun x H5 e5 hx => ?_)
      refine callA_go (ea_cons (ev_var rfl) (ea_cons (ev_op (ev_var rfl) (ev_var rfl) (rv_ixL (SqL.of (e5 _ _ hvs)) (atI_of rfl hv1))) ea_nil)) fun H6 e6 => ?_
      refine ⟨v1, c, j + 3 + 3 * (2 - (i + 1)), rfl, (hd1.ex e5).ex e6, B4.ct c hcm, fun hw => by
        have := B4.low c hcm hw
        omega, (((sw3.mono e4).mono e5).mono e6), fun u H7 t kp7 sw7 ctt lot hu => ⟨by show 1 ≤ sizeLine; decide, fun T hT => ?_⟩⟩
      have hx7 := kp_noL (hx.ex e6) (d := .tuple (c.items.take 5)) (by
        have n := B4.ok'.noLs
        have := noLs_mem n (List.mem_map.mpr ⟨c, hcm, rfl⟩)
        have this : (noL (.int c.b) && (noL (.int c.e) && (noL (.int c.th) && (noL (.str c.wo) && (noL c.giv && (noL c.told && true)))))) = true := this
        show (noL (.int c.b) && (noL (.int c.e) && (noL (.int c.th) && (noL (.str c.wo) && (noL c.giv && true))))) = true
        simp only [Bool.and_eq_true] at this ⊢
        exact ⟨this.1, this.2.1, this.2.2.1, this.2.2.2.1, this.2.2.2.2.1, trivial⟩) kp7
      obtain ⟨a, xs, rfl, hs, hd⟩ := (hx7.ex (Ex.new (o := .tup [u]) hT)).toTup
      have xl : xs.length = 5 := hd.len
      have B7 := (B4.kp' hb (Kp.of (e5.trans e6))).kp' hb kp7
      refine ⟨a, T, xs, [u], rfl, rfl, hs, SqT.of upd_same, by rw [xl]; show 6 ≤ sizeLine; decide, fun h => ?_, (fun _ h => by cases h), fun _ _ p2 hp2 => ?_⟩
      · rw [h] at xl
        cases xl
      have e78 : Ex H7 (upd (upd H7 T (.tup [u])) p2 (.tup (xs ++ [u]))) := (Ex.new hT).trans (Ex.new hp2)
      have B8 := B7.kp' hb (Kp.of e78)
      obtain ⟨c', vs8, v8, hcq8, _, hvs8, hvl8, _, _⟩ := B8.at' hq
      refine set_go (k := q) rfl rfl hvs8 (by omega) ⟨⟨_, _, rfl⟩, (sw7.mono e78).mutp hb hc, _, B8.set (c := c) (c' := { c with told := t }) hvs8 hcq rfl ctt (by omega) (fun hw => by
        have h1 := B4.low c hcm hw
        have h2 := lot hw
        show toI t ≤ _
        omega) ?_⟩
      have hu8 : DtAll K No (upd (upd H7 T (.tup [u])) p2 (.tup (xs ++ [u]))) (xs ++ [u]) (c.items.take 5 ++ [t]) := (hd.ex (Ex.new hp2)).app (.cons (hu.ex e78) .nil)
      exact .tup (SqT.of upd_same) hu8
    · exact ⟨⟨_, _, rfl⟩, (sw3.mono e4).le (by omega), cs', (B3.kp' hb (Kp.of e4)).up (by omega)⟩
  · obtain ⟨⟨o3, o4, rfl⟩, swq, cs', B⟩ := q
    have e9 : j + 3 + 3 * (2 - (1 + r).toNat) = (j + 3 * (2 - (1 + r).toNat) + 2) + 1 := by omega
    rw [e9] at swq
    have m12 : 10 + (((1 + r).toNat : Nat) : Int) ≤ 12 := by omega
    have B := B.up m12
    clear kp2 sw2 low
    have tl : cs'.length ≤ 10 := B.ok'.c10
    -- the word
    dsimp only
    refine asg_go ?_
    refine ⟨_, rfl, (evn_lst (K := K) (ds := [.str "take", .str "read", .str "count", .str "draw"]) (ead_cons ed_str (ead_cons ed_str (ead_cons ed_str (ead_cons ed_str ead_nil)))) (by show 4 ≤ 100000; decide)).go fun pl vl H3 hpl e3 hl hdl => ?_⟩
    refine ⟨.ref pl, [.str "take", .str "read", .str "count", .str "draw"], j + 3 * (2 - (1 + r).toNat) + 2, rfl, .lst hl (swq.nbar hpl) (hdl.any rfl), by simp, by show 4 ≤ 1000; decide, swq.mono e3, fun d hd vw H4 kp4 sw4 hvw => ?_⟩
    obtain ⟨wo, rfl⟩ : ∃ wo, d = .str wo := by
      simp only [List.mem_cons, List.not_mem_nil, or_false] at hd
      rcases hd with rfl | rfl | rfl | rfl <;> exact ⟨_, rfl⟩
    obtain rfl := hvw.toStr
    have B4 := (B.kp' hb (Kp.of e3)).kp' hb kp4
    refine asg_go ((evn_lcEnumL (K := K) (isWo wo) fst2 (evd_var rfl B4.dt) (by rw [List.length_map]; omega) fun d hd H5 e5 => ?_).go fun pt vt H5 hpt e5 ht hdt => ?_)
    · obtain ⟨i, hi⟩ := List.getElem?_of_mem hd
      obtain ⟨d', hd', rfl⟩ := enumD_at hi
      rw [List.getElem?_map, Option.map_eq_some_iff] at hd'
      obtain ⟨c, hcc, rfl⟩ := hd'
      exact tkw_pair (fun _ _ => rfl) (fun v1 v2 H6 e6 h1 h2 => td_test (ed_eqS (ed_ixT (ds := c.items) (d := .str c.wo) (evd_var rfl h2) ed_int rfl) (evd_var (d := .str wo) rfl (.str _)))) (fun _ v1 v2 H6 e6 h1 h2 => evd_var rfl h1) fun _ => rfl
    have tkd : ∀ d ∈ fm (isWo wo) fst2 (enumD (cs'.map Cl.data)), ∃ (k : Nat) (c : Cl), d = .int (k : Int) ∧ cs'[k]? = some c ∧ c.wo = wo := fun d hd => by
      obtain ⟨e, he, rfl⟩ := List.mem_map.mp hd
      rw [List.mem_filter] at he
      obtain ⟨i, hi⟩ := List.getElem?_of_mem he.1
      obtain ⟨d', hd', rfl⟩ := enumD_at hi
      rw [List.getElem?_map, Option.map_eq_some_iff] at hd'
      obtain ⟨c, hcc, rfl⟩ := hd'
      exact ⟨i, c, rfl, hcc, of_decide_eq_true he.2⟩
    have tln : (fm (isWo wo) fst2 (enumD (cs'.map Cl.data))).length ≤ 10 := by
      unfold fm
      rw [List.length_map]
      refine Nat.le_trans (List.length_filter_le _ _) ?_
      rw [enumD_len, List.length_map]
      exact tl
    have tnl : noL.noLs (fm (isWo wo) fst2 (enumD (cs'.map Cl.data))) = true := noLs_of fun x hx => by
      obtain ⟨k, c, rfl, _⟩ := tkd x hx
      rfl
    generalize fm (isWo wo) fst2 (enumD (cs'.map Cl.data)) = TD at hdt tkd tln tnl ⊢
    have B5 := B4.kp' hb (Kp.of e5)
    have sw5 := sw4.mono e5
    have fin : ∀ (rest : List (Option V)) (H' : Hp) (cs'' : List Cl) (D : Ends), BentH K z H p ss cs cs'' 12 H' → SW z H' j → D.rt = Q → tRet
        (tTup
          (tCons (tOp (rIxT K) (tVar 1) (tC (V.int 0)))
            (tCons
              (tCB
                (fun xs H Q =>
                  ∃ p ys,
                    xs = [V.ref p] ∧
                      ((SqL K H p ys ∧ ∀ (l : Addr), H l = none → Q (V.ref l) (upd H l (HO.tup ys))) ∨
                        SqT K H p ys ∧ Q (V.ref p) H))
                (tCons (tVar 2) tNil))
              tNil))) D (bentSt z v p rest) H' := fun rest H' cs'' D B' sw' hD => by
      refine sd_ret (K := K) (d := dHist ss cs'') (evd_tup (ds := [dSorts ss, dCalls cs'']) (ead_cons (ed_ixT (i := 0) (d := dSorts ss) (evd_var rfl (kp_noL hvt nh B'.kp)) ed_int rfl) (ead_cons (ed_tuple (evd_var rfl B'.dt) .l) ead_nil)) (by show 2 ≤ 100000; decide)) fun u H6 e6 hu => ?_
      rw [hD]
      exact k u H6 cs'' (B'.kp.trans (Kp.of e6)) (sw'.mono e6) B'.ok' hu
    refine (td_test (K := K) (ed_b0 (g := fun i j => decide (j < i)) (ed_len (evd_var (d := .list TD) rfl (.lst ht (fun z => z) hdt)) .l) ed_int)) H5 (Ex.refl H5) _ fun H6 e6 => ?_
    by_cases h1 : (1 : Int) < (TD.length : Int)
    · rw [if_pos (decide_eq_true h1)]
      refine drawq_go K (j := j + 3 * (2 - (1 + r).toNat) + 1) rfl (sw5.mono e6) (by decide) (by decide) fun b H7 kp7 sw7 => ?_
      have B7 := (B5.kp' hb (Kp.of e6)).kp' hb kp7
      have hbt : ¬ z.bar pt := sw4.nbar hpt
      have ht7 := kp7.k pt _ hbt (e6 _ _ ht)
      have hdt7 := dtall_kp tnl kp7 (hdt.ex e6)
      cases b with
      | false => exact fin [_, _, _, _, _, _, _, _] H7 cs' _ B7 (sw7.le (by omega)) rfl
      | true =>
        obtain ⟨v0, d0, hv0, _, hm0, hd0⟩ := hdt7.memAt (i := 0) (by omega)
        obtain ⟨k0, c0, rfl, hc0, hw0⟩ := tkd d0 hm0
        obtain rfl := hd0.toInt
        change tSeq (tPar 7 8 _) _ _ _ _
        refine (show ∀ {ta : TA} {tz : TS} {D : Ends} {σ : L2.St} {H : Hp}, (ta σ H fun vs H1 => ∃ u v, vs = [u, v] ∧ tz D ((σ.set 7 (some u)).set 8 (some v)) H1) → tSeq (tPar 7 8 ta) tz D σ H from fun h => h) ?_
        refine op_go ⟨_, rfl, pt, vt, 0, _, rfl, rfl, SqL.of ht7, atI_of (j := 0) rfl hv0, ?_⟩
        refine ⟨_, rfl, ?_⟩
        change tCall (spDraw z) [] C8.E0 _ _ _ _
        refine draw_go (K := K) (j := j + 3 * (2 - (1 + r).toNat)) rfl sw7 (ed_i0 (g := fun i j => i - j) (ed_len (evd_var (d := .list TD) rfl (.lst ht7 (fun z => z) hdt7)) .l) ed_int) (by omega) (by omega) fun x H8 x0 x1 kp8 sw8 => ?_
        have hdt8 := dtall_kp tnl kp8 hdt7
        have ht8 := kp8.k pt _ hbt ht7
        have B8 := B7.kp' hb kp8
        obtain ⟨v2, d2, hv2, _, hm2, hd2⟩ := hdt8.memAt (i := (1 + x).toNat) (by omega)
        obtain ⟨k2, c2, rfl, hc2, hw2⟩ := tkd d2 hm2
        obtain rfl := hd2.toInt
        refine ⟨_, _, rfl, rfl, pt, vt, _, _, rfl, rfl, SqL.of ht8, atI_of (j := (1 + x).toNat) (by omega) hv2, _, _, rfl, ?_⟩
        have l0 := (List.getElem?_eq_some_iff.mp hc0).1
        have l2 := (List.getElem?_eq_some_iff.mp hc2).1
        obtain ⟨vs8, hvs8, hds8⟩ := B8.lst
        have vl8 : vs8.length = cs'.length := by rw [hds8.len, List.length_map]
        obtain ⟨u0, hu0, hud0⟩ := hds8.at (i := k0) (d := c0.data) (by rw [List.getElem?_map, hc0]; rfl)
        obtain ⟨u2, hu2, hud2⟩ := hds8.at (i := k2) (d := c2.data) (by rw [List.getElem?_map, hc2]; rfl)
        refine (show ∀ {ta : TA} {tz : TS} {D : Ends} {σ : L2.St} {H : Hp}, (ta σ H fun vs H1 => ∃ u v, vs = [u, v] ∧ tz D ((σ.set 9 (some u)).set 10 (some v)) H1) → tSeq (tPar 9 10 ta) tz D σ H from fun h => h) ?_
        refine op_go ⟨_, rfl, _, rfl, p, vs8, _, _, rfl, rfl, SqL.of hvs8, atI_of (j := k0) rfl hu0, _, rfl, _, rfl, p, vs8, _, _, rfl, rfl, SqL.of hvs8, atI_of (j := k2) rfl hu2, _, _, rfl, ?_⟩
        -- both are told crosswise
        have n0 : noL c0.data = true := noLs_mem B8.ok'.noLs (List.mem_map.mpr ⟨c0, List.mem_of_getElem? hc0, rfl⟩)
        have n2 : noL c2.data = true := noLs_mem B8.ok'.noLs (List.mem_map.mpr ⟨c2, List.mem_of_getElem? hc2, rfl⟩)
        have t2 : canTell c0.wo c2.told = true := by rw [hw0, ← hw2]; exact B8.ct c2 (List.mem_of_getElem? hc2)
        have t0 : canTell c2.wo c0.told = true := by rw [hw2, ← hw0]; exact B8.ct c0 (List.mem_of_getElem? hc0)
        have w02 : c0.wo = c2.wo := hw0.trans hw2.symm
        refine asgT_go ((evd_cat (K := K) (ds := c0.items.take 5) (es := c2.items.drop 5) (sl_to (k := 5) (evd_var rfl hud0) ed_int) (sl_from (k := 5) (evd_var rfl hud2) ed_int) (by show 5 + 1 ≤ 100000; decide)).go fun y H9 e9 hy => ?_)
        refine set_go (k := k0) rfl rfl (e9 _ _ hvs8) (by omega) ?_
        have B9 := (B8.kp' hb (Kp.of e9)).set (c := c0) (c' := { c0 with told := c2.told }) (m' := 12) (e9 _ _ hvs8) hc0 rfl t2 (Int.le_refl _) (fun hw => B8.low c2 (List.mem_of_getElem? hc2) (show c2.wo ∈ NUM from w02 ▸ hw)) hy
        have hud0' := dt_upd (o := .lst (vs8.set k0 y)) n0 (e9 _ _ hvs8) (hud0.ex e9)
        have hud2' := dt_upd (o := .lst (vs8.set k0 y)) n2 (e9 _ _ hvs8) (hud2.ex e9)
        have sw9 := (sw8.mono e9).mutp (o := .lst (vs8.set k0 y)) hb hc
        obtain ⟨H10, eH10⟩ : ∃ H10, upd H9 p (.lst (vs8.set k0 y)) = H10 := ⟨_, rfl⟩
        have hvs10 : H10 p = some (.lst (vs8.set k0 y)) := by
          rw [← eH10]
          exact upd_same
        rw [eH10] at B9 hud0' hud2' sw9 ⊢
        refine (evd_cat (K := K) (ds := c2.items.take 5) (es := c0.items.drop 5) (sl_to (k := 5) (evd_var rfl hud2') ed_int) (sl_from (k := 5) (evd_var rfl hud0') ed_int) (by show 5 + 1 ≤ 100000; decide)).go fun y2 H11 e11 hy2 => ?_
        refine set_go (k := k2) rfl rfl (e11 _ _ hvs10) (by rw [List.length_set]; omega) ?_
        obtain ⟨c3, hc3, ek3⟩ : ∃ c3, (cs'.set k0 { c0 with told := c2.told })[k2]? = some c3 ∧ key5 { c2 with told := c0.told } = key5 c3 := by
          by_cases e : k2 = k0
          · subst e
            rw [hc0] at hc2
            obtain rfl := Option.some.inj hc2
            exact ⟨_, List.getElem?_set_self l0, rfl⟩
          · exact ⟨c2, by rw [List.getElem?_set_ne (Ne.symm e)]; exact hc2, rfl⟩
        have B11 := (B9.kp' hb (Kp.of e11)).set (c := c3) (c' := { c2 with told := c0.told }) (m' := 12) (e11 _ _ hvs10) hc3 ek3 t0 (Int.le_refl _) (fun hw => B8.low c0 (List.mem_of_getElem? hc0) (show c0.wo ∈ NUM from w02 ▸ hw)) hy2
        exact fin [_, _, _, _, _, _, _, _] _ _ _ B11 (((sw9.mono e11).mutp hb hc).le (by omega)) rfl
    · rw [if_neg (by rw [decide_eq_false h1]; decide)]
      exact fin [_, _, _, _, _, _, _, _] H6 cs' _ (B5.kp' hb (Kp.of e6)) ((sw5.mono e6).le (by omega)) rfl
end
end SB
end

section
set_option Elab.async false
set_option linter.all false
set_option maxRecDepth 100000
set_option maxHeartbeats 2000000
set_option autoImplicit false
/-! SbL9: a history is drawn. -/
namespace SB
open PySem PySem.Spec PyProof.Rows L2 Evl
abbrev s__law_sorts : Stmt := topS 57
abbrev N__law_sorts : List Str := ["_law_state", "_law_many", "_law_some", "_law_k"]
theorem sc__law_sorts : FnScope N__law_sorts ["_law_state", "_law_many"] (C8.fnScope s__law_sorts) := C8.fnScope_by (by decide +kernel)
abbrev s__law_drawn : Stmt := topS 58
abbrev N__law_drawn : List Str := ["_law_state", "_law_many", "_law_most", "_law_history_here"]
theorem sc__law_drawn : FnScope N__law_drawn ["_law_state", "_law_many", "_law_most"] (C8.fnScope s__law_drawn) := C8.fnScope_by (by decide +kernel)
local macro_rules | `(tactic| walk_at "sd") => `(tactic| first | with_reducible rfl | assumption | exact SeqD.t | exact SeqD.l | rfl | omega)
local macro_rules | `(tactic| walk_at "dt") => `(tactic| first | assumption | exact Dt.int _ | exact Dt.bl _ | exact Dt.str _ | exact Dt.non | exact Dt.ex (by assumption) (by assumption))
local macro_rules | `(tactic| walk_at "ev") => `(tactic| first
  | assumption
  | with_reducible apply ed_int
  | with_reducible apply ed_str
  | with_reducible apply ed_bl
  | with_reducible apply ed_non
  | with_reducible apply ead_nil
  | with_reducible exact et_yes
  | with_reducible exact eo_none
  | exact evd_var rfl (by walk_at "dt")
  | ((with_reducible apply td_test); walk_at "ev")
  | ((with_reducible apply td_B); walk_at "ev")
  | ((with_reducible apply et_not); walk_at "ev")
  | ((with_reducible apply et_and); walk_at "ev"; intro _; walk_at "ev")
  | ((with_reducible apply et_or); walk_at "ev"; intro _; walk_at "ev")
  | ((with_reducible apply ead_cons); walk_at "ev"; walk_at "ev")
  | ((with_reducible apply eod_some); walk_at "ev")
  | ((with_reducible apply evd_tup); walk_at "ev"; first | decide | (focus (simp; done)) | omega)
  | ((with_reducible apply evd_lst); walk_at "ev"; first | decide | (focus (simp; done)) | omega)
  | ((with_reducible apply ed_not); walk_at "ev")
  | ((with_reducible apply ed_and); walk_at "ev"; intro _; walk_at "ev")
  | ((with_reducible apply ed_or); walk_at "ev"; intro _; walk_at "ev")
  | ((with_reducible apply ed_i0); walk_at "ev"; walk_at "ev")
  | ((with_reducible apply ed_b0); walk_at "ev"; walk_at "ev")
  | ((with_reducible apply ed_eqI); walk_at "ev"; walk_at "ev")
  | ((with_reducible apply ed_eqS); walk_at "ev"; walk_at "ev")
  | ((with_reducible apply ed_eqB); walk_at "ev"; walk_at "ev")
  | ((with_reducible apply ed_neI); walk_at "ev"; walk_at "ev")
  | ((with_reducible apply ed_neS); walk_at "ev"; walk_at "ev")
  | ((with_reducible apply ed_neB); walk_at "ev"; walk_at "ev")
  | ((with_reducible apply ed_isN); walk_at "ev"; walk_at "ev")
  | ((with_reducible apply ed_notN); walk_at "ev"; walk_at "ev")
  | ((with_reducible apply ed_chain); walk_at "ev"; walk_at "ev"; walk_at "ev")
  | ((with_reducible apply ed_ixT); walk_at "ev"; walk_at "ev"; walk_at "sd")
  | ((with_reducible apply ed_ixL); walk_at "ev"; walk_at "ev"; walk_at "sd")
  | ((with_reducible apply ed_isi); walk_at "ev"; (first | exact kit_int _ | exact kit_bool _ | exact kit_tuple _ | exact kit_str _))
  | ((with_reducible apply ed_len); walk_at "ev"; walk_at "sd")
  | ((with_reducible apply ed_call); walk_at "ev"; (first | assumption | exact ⟨_, rfl, rfl⟩ | exact ⟨_, _, rfl, rfl⟩ | exact ⟨_, _, _, rfl, rfl⟩); exact rfl)
  | ((with_reducible apply ed_max2); walk_at "ev"; walk_at "ev")
  | ((with_reducible apply ed_min2); walk_at "ev"; walk_at "ev")
  | ((with_reducible apply ed_list); walk_at "ev"; walk_at "sd")
  | ((with_reducible apply ed_tuple); walk_at "ev"; walk_at "sd")
  | ((with_reducible apply ed_neg); walk_at "ev"))

section
variable {K : PySem.W.Frag} {σ : L2.St} {H H' : Hp} {ta tb tc te : TE} {t : TT}
/-- [.. for j in range(n)], with draws -/
theorem lcR_goY {z : Sp3} {k n j c : Nat} {Q : VK} (Pd : PyData → Prop) (sw : SW z H (j + c * n)) (hz : n ≤ 40000) (nl : ∀ d, Pd d → noL d = true)
    (st : ∀ H' i, i < n → Kp z.bar H H' → SW z H' (j + c * (n - (i + 1)) + c) → ∀ Q1 : VK, (∀ y H4 d, Kp z.bar H' H4 → SW z H4 (j + c * (n - (i + 1))) → Pd d → Dt K No H4 y d → Q1 y H4) → te ((wipe σ [k]).set k (some (.int (i : Nat)))) H' Q1)
    (q : ∀ p xs H2 ds, H p = none → Kp z.bar H H2 → SW z H2 j → H2 p = some (.lst xs) → DtAll K No H2 xs ds → ds.length = n → (∀ d ∈ ds, Pd d) → Q (.ref p) H2) : tLc (iRng1 fun _ H Q => Q [.int (n : Int)] H) (gName k) tYes te [k] σ H Q := by
  refine ⟨n, rfl, by omega, by omega, fun Dl hD => ?_⟩
  have hb := sw.nbar hD
  have hc := sw.nC hD
  refine lc_it walk_range (fun i H' => Kp z.bar H H' ∧ SW z H' (j + c * (n - i)) ∧ ∃ acc ds, H' Dl = some (.lst acc) ∧ DtAll K No H' acc ds ∧ ds.length = i ∧ ∀ d ∈ ds, Pd d) ⟨(Kp.refl _).mutp hD, sw.mutp hb hc, [], [], upd_same, .nil, rfl, fun d hd => absurd hd List.not_mem_nil⟩ (fun _ _ _ _ => trivial) (fun i x H' H'' hi p y => ?_) fun H' p => ?_
  · obtain ⟨kpi, swi, acc, ds, hacc, hds, hl, hp⟩ := p
    obtain ⟨rfl, hx⟩ := y
    have hx : x = .int (i : Int) := by rw [hx]; simp
    subst hx
    have hi : i < n := by simpa using hi
    refine ⟨wipe1, ?_⟩
    rw [show j + c * (n - i) = j + c * (n - (i + 1)) + c by
      have : n - i = (n - (i + 1)) + 1 := by omega
      rw [this, Nat.mul_add, Nat.mul_one]; omega] at swi
    refine st H'' i hi kpi swi _ fun y H4 d kp4 sw4 hd hy => ?_
    have hacc4 := kp4.k Dl _ hb hacc
    have nds : noL.noLs ds = true := noLs_of fun x hx => nl x (hp x hx)
    refine ⟨acc, hacc4, sz_lt (by rw [hds.len]; omega), (kpi.trans kp4).mutp hD, sw4.mutp hb hc, acc ++ [y], ds ++ [d], upd_same, dtall_upd (noLs_app nds (by show (noL d && true) = true; rw [nl d hd]; rfl)) hacc4 ((dtall_kp nds kp4 hds).app (.cons hy .nil)), by rw [List.length_append, hl]; rfl, fun e he => ?_⟩
    rcases List.mem_append.mp he with he | he
    · exact hp e he
    · obtain rfl := List.mem_singleton.mp he
      exact hd
  · obtain ⟨kpi, swi, acc, ds, hacc, hds, hl, hp⟩ := p
    rw [Int.toNat_natCast] at swi hl
    rw [Nat.sub_self, Nat.mul_zero] at swi
    exact q Dl acc H' ds hD kpi swi hacc hds hl hp
theorem cb1_go {f : List V → Hp → VK → Prop} {Q : VK} (h : te σ H fun x H1 => f [x] H1 Q) : tCB f (tCons te tNil) σ H Q := h
theorem lc_draw {z : Sp3} {i : Nat} {m : Int} {j : Nat} {tm : TE} {g : TG} {vs : List Nat} {Q : VK} (hS : σ[i]? = some (some (.ref z.S))) (sw : SW z H (j + 1)) (hm : EvD K tm σ H (.int m)) (h0 : 0 < m) (h1 : m ≤ 1000000)
    (q : ∀ r H2, 0 ≤ r → r < m → Kp z.bar H H2 → SW z H2 j → tLc (iRng1 fun _ H Q => Q [.int (1 + r)] H) g t te vs σ H2 Q) :
    tLc (iRng1 (tCons (tOp (rI0 fun i j => .int (i + j)) (tC (.int 1)) (tCall (spDraw z) [] C8.E0 (tCons (tVar i) (tCons tm tNil)))) tNil)) g t te vs σ H Q := by
  exact draw_go (K := K) hS sw hm h0 h1 fun r H2 r0 r1 kp s2 => ⟨_, _, rfl, rfl, q r H2 r0 r1 kp s2⟩
end
section
variable {P : Program} {w : World} {K : PySem.W.Frag} {mg : Str → Option Value} {base : Heap} {A0 : Ad}
def isWh (lo hi : Int) (x : PyData) : Bool := isInt x && (decide (lo ≤ toI x) && decide (toI x ≤ hi))
abbrev spWhole (K : PySem.W.Frag) : Sp := spP K 3 fun ds d => ∃ (x : PyData) (lo hi : Int), ds = [x, .int lo, .int hi] ∧ d = .bool (isWh lo hi x)
theorem c__law_is_whole (T : Tx A0 K w mg) : C8.Cal P w K mg base 1 "_law_is_whole" (spWhole K) [] := by
  refine cal_of T.d__law_is_whole sc__law_is_whole (fun vs H Q E h => h.1) (fun f cdv A outer s H vs Q E hr h => ?_)
  obtain ⟨hl, ds, d, hd, ⟨x, lo, hi, rfl, rfl⟩, k⟩ := h
  refine ⟨_, (pss_one (ps_ret (pe_and (pe_callB call_isi (by rfl) T.isinstance (by decide +kernel) (pa_cons (pv 0) (pa_cons (pe_bltn (v := .ty "int") (by rfl) T.int PyProof.Rows.boot_int rfl) pa_nil))) (pe_and (pe_not (pe_callB call_isi (by rfl) T.isinstance (by decide +kernel) (pa_cons (pv 0) (pa_cons (pe_bltn (v := .ty "bool") (by rfl) T.bool PyProof.Rows.boot_bool rfl) pa_nil)))) (pe_one (pe_chain op_le op_le (pv 1) (pv 0) (pv 2))))))), ?_⟩
  simp only [cxK, cxK2, List.map_cons, List.map_nil]
  obtain ⟨v, u, z, rfl, hv, hu, hz⟩ := hd.three
  refine sd_ret (evd_is (ed_and (a := isInt x || isBln x) (b := !isBln x && (decide (lo ≤ toI x) && decide (toI x ≤ hi))) (by walk_at "ev") fun hb => ed_and (a := !isBln x) (b := decide (lo ≤ toI x) && decide (toI x ≤ hi)) (by walk_at "ev") fun hb2 => ?_) ?_) k
  · have hi : isInt x = true := by
      rw [Bool.not_eq_true'] at hb2
      rw [hb2, Bool.or_false] at hb
      exact hb
    rw [isInt_is hi] at hv
    walk_at "ev"
  · unfold isWh
    cases x <;> rfl
/-- sorts are drawn -/
def spSorts (K : PySem.W.Frag) (z : Sp3) : Sp := fun vs H Q _ => ∃ m j, vs = [.ref z.S, .int m] ∧ 1 ≤ m ∧ m ≤ 4 ∧ SW z H (j + 6) ∧ ∀ v H' ss, Kp z.bar H H' → SW z H' j → 0 < ss.length → ss.length ≤ 4 → (∀ s ∈ ss, Srt.ok s) → Dt K No H' v (dSorts ss) → Q v H'
theorem c__law_sorts (T : Tx A0 K w mg) (z : Sp3) : C8.Cal P w K mg base 4 "_law_sorts" (spSorts K z) [] := by
  have c__law_draw := c__law_draw (P := P) (base := base) T z
  have c__law_of := c__law_of (P := P) (base := base) T z
  refine cal_of T.d__law_sorts sc__law_sorts (fun vs H Q E h => by obtain ⟨m, j, rfl, _⟩ := h; rfl) (fun f cdv A outer s H vs Q E hr h => ?_)
  obtain ⟨m, j, rfl, hm1, hm4, sw, k⟩ := h
  refine ⟨_, (pss_cons (ps_set (i := 2) sc__law_sorts.nd rfl (by first | exact Or.inl rfl | exact Or.inr rfl) (pe_lst (pa_cons pe_str (pa_cons pe_str (pa_cons pe_str (pa_cons pe_str (pa_cons pe_str (pa_cons pe_str (pa_cons pe_str (pa_cons (pe_tup (pa_cons pe_str (pa_cons (pe_op op_add pe_int (C8.pe_c c__law_draw hr (by decide) (by rfl) (pa_cons (pv 0) (pa_cons pe_int pa_nil)))) pa_nil))) pa_nil))))))))))
        (pss_one (ps_ret (pe_callTy call_tuple_of (by rfl) T.tuple (by decide +kernel) (pa_cons (pe_lc (own := [("_law_k", 3)]) (by rfl) sc__law_sorts.nd (pi_range1 (by rfl) T.range (pa_cons (pe_op op_add pe_int (C8.pe_c c__law_draw hr (by decide) (by rfl) (pa_cons (pv 0) (pa_cons (pv 1) pa_nil)))) pa_nil)) (blkOk_by (N := N__law_sorts) (sc := (C8.fnScope s__law_sorts)) (by decide +kernel)) (fun _ _ _ _ _ => (pg_name (i := 3) sc__law_sorts.nd rfl (by first | exact Or.inl rfl | exact Or.inr rfl))) (fun _ _ _ _ _ => pts_nil) (fun _ _ _ _ _ => (C8.pe_c c__law_of hr (by decide) (by rfl) (pa_cons (pv 0) (pa_cons (pv 2) pa_nil))))) pa_nil))))), ?_⟩
  simp only [cxK, cxK2, List.map_cons, List.map_nil]
  refine asg_go ?_
  change tCall (spDraw z) [] C8.E0 (tCons (tVar 0) (tCons (tC (V.int 3)) tNil)) _ _ _
  refine draw_go (K := K) (j := j + 5) rfl sw ed_int (by decide) (by decide) fun r H1 r0 r1 kp1 sw1 => ⟨_, _, rfl, rfl, two_le, fun p hp => ⟨by show 8 ≤ sizeLine; decide, fun pl hl => ?_⟩⟩
  have eA : Ex H1 (upd (upd H1 p (.tup [.str "room", .int (1 + r)])) pl (.lst [.str "cell", .str "queue", .str "stack", .str "heads", .str "counter", .str "tickets", .str "set", .ref p])) := (Ex.new hp).trans (Ex.new hl)
  have hroom : Dt K z.bar (upd H1 p (.tup [.str "room", .int (1 + r)])) (.ref p) (Srt.room (1 + r)).data := .tup (SqT.of upd_same) (.cons (.str _) (.cons (.int _) .nil))
  have hpl : ¬ z.bar pl := (sw1.mono (Ex.new hp)).nbar hl
  have hL : Dt K z.bar (upd (upd H1 p (.tup [.str "room", .int (1 + r)])) pl (.lst [.str "cell", .str "queue", .str "stack", .str "heads", .str "counter", .str "tickets", .str "set", .ref p])) (.ref pl) (.list (([.cell, .queue, .stack, .heads, .counter, .tickets, .set, .room (1 + r)] : List Srt).map Srt.data)) :=
    .lst upd_same hpl (.cons (.str _) (.cons (.str _) (.cons (.str _) (.cons (.str _) (.cons (.str _) (.cons (.str _) (.cons (.str _) (.cons (hroom.ex (Ex.new hl)) .nil))))))))
  have sw1 := sw1.mono eA
  have kp1 := kp1.trans (Kp.of eA)
  generalize (upd (upd H1 p (.tup [.str "room", .int (1 + r)])) pl (.lst [.str "cell", .str "queue", .str "stack", .str "heads", .str "counter", .str "tickets", .str "set", .ref p])) = H2 at hL sw1 kp1 ⊢
  refine ret_go (cb1_go ?_)
  refine lc_draw (K := K) (j := j + 4) rfl sw1 (evd_var (d := .int m) rfl (.int _)) (by omega) (by omega) fun x H3 x0 x1 kp3 sw3 => ?_
  obtain ⟨n, hn⟩ : ∃ n : Nat, 1 + x = (n : Int) := ⟨(1 + x).toNat, by omega⟩
  rw [hn]
  refine lcR_goY (K := K) (j := j) (c := 1) (fun d => ∃ s : Srt, s.ok ∧ d = s.data) (sw3.le (by omega)) (by omega) (fun d hd => ?_) (fun H' i hi kp' sw' Q1 hQ => ?_) fun p2 xs H4 ds hp2 kp4 sw4 hxs hds hl hP => ?_
  · obtain ⟨s, _, rfl⟩ := hd
    cases s <;> rfl
  · refine ⟨_, rfl, _, rfl, ?_⟩
    refine ⟨.ref pl, _, j + 1 * (n - (i + 1)), rfl, (hL.ke kp3).ke kp', by simp, by show 8 ≤ 1000; decide, sw', fun d hd v H5 kp5 sw5 hv => ?_⟩
    obtain ⟨s, hs, rfl⟩ := List.mem_map.mp hd
    refine hQ v H5 _ kp5 sw5 ⟨s, ?_, rfl⟩ hv.no
    simp only [List.mem_cons, List.not_mem_nil, or_false] at hs
    rcases hs with rfl | rfl | rfl | rfl | rfl | rfl | rfl | rfl <;> first | trivial | exact ⟨by omega, by omega⟩
  · obtain ⟨ss, hss⟩ : ∃ ss : List Srt, ds = ss.map Srt.data ∧ ∀ s ∈ ss, s.ok := by
      clear hds hl
      induction ds with
      | nil => exact ⟨[], rfl, fun s hs => absurd hs List.not_mem_nil⟩
      | cons d r ih =>
        obtain ⟨s, hs, rfl⟩ := hP d List.mem_cons_self
        obtain ⟨ss, rfl, h2⟩ := ih fun e he => hP e (List.mem_cons_of_mem _ he)
        refine ⟨s :: ss, rfl, fun t ht => ?_⟩
        rcases List.mem_cons.mp ht with rfl | ht
        · exact hs
        · exact h2 t ht
    obtain ⟨rfl, hok⟩ := hss
    rw [List.length_map] at hl
    refine ⟨p2, xs, rfl, .inl ⟨SqL.of hxs, fun l hl2 => ?_⟩⟩
    exact k _ _ ss (((kp1.trans kp3).trans kp4).trans (Kp.of (Ex.new hl2))) (sw4.mono (Ex.new hl2)) (by omega) (by omega) hok (.tup (SqT.of upd_same) (hds.ex (Ex.new hl2)))
def spDrawn (K : PySem.W.Frag) (z : Sp3) : Sp := fun vs H Q _ => ∃ j, vs = [.ref z.S, .int 4, .int 10] ∧ SW z H (j + 80) ∧ ∀ v H' ss cs, Kp z.bar H H' → SW z H' j → HistOk ss cs → Dt K No H' v (dHist ss cs) → Q v H'
theorem HistOk.noL {ss : List Srt} {cs : List Cl} (ok : HistOk ss cs) : SB.noL (dHist ss cs) = true := by
  show (SB.noL (dSorts ss) && (SB.noL (dCalls cs) && true)) = true
  rw [show SB.noL (dSorts ss) = true from noLs_of fun x hx => by
    obtain ⟨s, _, rfl⟩ := List.mem_map.mp hx
    cases s <;> rfl, show SB.noL (dCalls cs) = true from ok.noLs]
  rfl
theorem c__law_drawn (T : Tx A0 K w mg) (z : Sp3) : C8.Cal P w K mg base 7 "_law_drawn" (spDrawn K z) [] := by
  have c__law_draw := c__law_draw (P := P) (base := base) T z
  have c__law_sorts := c__law_sorts (P := P) (base := base) T z
  have c__law_history := c__law_history (P := P) (base := base) T z
  have c__law_bent := c__law_bent (P := P) (base := base) T z
  refine cal_of T.d__law_drawn sc__law_drawn (fun vs H Q E h => by obtain ⟨j, rfl, _⟩ := h; rfl) (fun f cdv A outer s H vs Q E hr h => ?_)
  obtain ⟨j, rfl, sw, k⟩ := h
  refine ⟨_, (pss_cons (ps_set (i := 3) sc__law_drawn.nd rfl (by first | exact Or.inl rfl | exact Or.inr rfl) (C8.pe_c c__law_history hr (by decide) (by rfl) (pa_cons (pv 0) (pa_cons (C8.pe_c c__law_sorts hr (by decide) (by rfl) (pa_cons (pv 0) (pa_cons (pv 1) pa_nil))) (pa_cons (C8.pe_c c__law_draw hr (by decide) (by rfl) (pa_cons (pv 0) (pa_cons (pe_op op_add (pv 2) pe_int) pa_nil))) pa_nil)))))
        (pss_one (ps_ret (pe_ifExp (pt_cmpR op_eq (C8.pe_c c__law_draw hr (by decide) (by rfl) (pa_cons (pv 0) (pa_cons pe_int pa_nil))) pe_int (nomark _)) (pv 3) (C8.pe_c c__law_bent hr (by decide) (by rfl) (pa_cons (pv 0) (pa_cons (pv 3) pa_nil))))))), ?_⟩
  try simp only [cxK, cxK2, List.map_cons, List.map_nil]
  refine asg_go ⟨_, rfl, ?_⟩
  refine ⟨_, rfl, _, rfl, 4, j + 74, rfl, by decide, by decide, sw, fun sv H1 ss kp1 sw1 h0 h4 hok hsv => ?_⟩
  change tCall (spDraw z) [] C8.E0 (tCons (tVar 0) (tCons (tOp (rI0 fun i j => V.int (i + j)) (tVar 2) (tC (V.int 1))) tNil)) _ _ _
  refine draw_go (K := K) (j := j + 73) (m := 11) rfl sw1 (ed_i0 (i := 10) (j := 1) (g := fun i j => i + j) (evd_var (d := .int 10) rfl (.int _)) ed_int) (by decide) (by decide) fun r H2 r0 r1 kp2 sw2 => ?_
  obtain ⟨n, rfl⟩ : ∃ n : Nat, r = (n : Int) := ⟨r.toNat, by omega⟩
  refine ⟨sv, ss, n, j + 21, rfl, kp_noL hsv (noLs_of fun x hx => by
    obtain ⟨s, _, rfl⟩ := List.mem_map.mp hx
    cases s <;> rfl) kp2, h0, h4, hok, by omega, sw2.le (by omega), fun v H3 cs kp3 sw3 ok low hv => ?_⟩
  refine ret_go (drawq_go K (j := j + 20) rfl sw3 (by decide) (by decide) fun b H4 kp4 sw4 => ?_)
  have hv4 := kp_noL hv ok.noL kp4
  have kpa := ((kp1.trans kp2).trans kp3).trans kp4
  cases b with
  | true => exact ⟨_, rfl, k v H4 ss cs kpa (sw4.le (by omega)) ok hv4⟩
  | false => exact ⟨_, rfl, _, rfl, v, ss, cs, j + 10, rfl, hv4, ok, low, sw4, fun u H5 cs' kp5 sw5 ok' hu => k u H5 ss cs' (kpa.trans kp5) (sw5.le (by omega)) ok' hu⟩
end
end SB
end

section
set_option Elab.async false
set_option linter.all false
set_option maxRecDepth 100000
set_option maxHeartbeats 2000000
set_option autoImplicit false
/-! SbM4: plain: orders. -/
namespace SB
open PySem PySem.Spec PyProof.Rows L2 Evl
/-- b is not before a -/
def NB (cs : List Cl) (a b : Int) : Prop := beforeN cs b.toNat a.toNat = false
def rgI (n : Nat) : List Int := (List.range n).map fun (i : Nat) => (i : Int)
theorem mem_rgI {n : Nat} {i : Int} : i ∈ rgI n ↔ 0 ≤ i ∧ i < n := by
  unfold rgI
  rw [List.mem_map]
  constructor
  · rintro ⟨k, hk, rfl⟩
    have := List.mem_range.mp hk
    omega
  · rintro ⟨h0, h1⟩
    exact ⟨i.toNat, List.mem_range.mpr (by omega), by omega⟩
theorem nodup_rgI (n : Nat) : (rgI n).Nodup := by
  unfold rgI List.Nodup
  rw [List.pairwise_map]
  exact List.Pairwise.imp (fun {a b} (h : a < b) e => by omega) List.pairwise_lt_range
theorem len_rgI (n : Nat) : (rgI n).length = n := by
  unfold rgI
  rw [List.length_map, List.length_range]
theorem before_lt {cs : List Cl} {i j : Nat} (h : beforeN cs i j = true) : i < cs.length ∧ j < cs.length := by
  unfold beforeN at h
  cases h1 : cs[i]? with
  | none =>
    rw [h1] at h
    cases h
  | some c =>
    cases h2 : cs[j]? with
    | none =>
      rw [h1, h2] at h
      cases h
    | some d => exact ⟨(List.getElem?_eq_some_iff.mp h1).1, (List.getElem?_eq_some_iff.mp h2).1⟩
theorem before_of {cs : List Cl} {i j : Nat} {c d : Cl} (h1 : cs[i]? = some c) (h2 : cs[j]? = some d) : beforeN cs i j = decide (c.e < d.b) := by
  unfold beforeN
  rw [h1, h2]
theorem before_self {cs : List Cl} (be : ∀ c ∈ cs, c.b < c.e) (i : Nat) : beforeN cs i i = false := by
  unfold beforeN
  cases h1 : cs[i]? with
  | none => rfl
  | some c =>
    have := be c (List.mem_of_getElem? h1)
    exact decide_eq_false (by omega)
theorem ahead_mem {cs : List Cl} {j : Nat} {i : Int} : i ∈ aheadOf cs j ↔ 0 ≤ i ∧ beforeN cs i.toNat j = true := by
  unfold aheadOf
  rw [List.mem_map]
  constructor
  · rintro ⟨k, hk, rfl⟩
    rw [List.mem_filter] at hk
    exact ⟨by omega, by rw [Int.toNat_natCast]; exact hk.2⟩
  · rintro ⟨h0, h1⟩
    exact ⟨i.toNat, List.mem_filter.mpr ⟨List.mem_range.mpr (before_lt h1).1, h1⟩, by omega⟩
theorem ordOk_iff {cs : List Cl} (be : ∀ c ∈ cs, c.b < c.e) : ∀ (r done : List Int), (∀ i : Int, 0 ≤ i → i < cs.length → i ∈ done ++ r) → (done ++ r).Nodup → (∀ n ∈ r, 0 ≤ n) → (ordOk cs done r = true ↔ r.Pairwise (NB cs))
  | [], done, _, _, _ => by
    unfold ordOk
    simp
  | n :: r, done, all, nd, pos => by
    have all' : ∀ i : Int, 0 ≤ i → i < cs.length → i ∈ (done ++ [n]) ++ r := fun i h0 h1 => by
      rw [List.append_assoc]
      exact all i h0 h1
    have nd' : ((done ++ [n]) ++ r).Nodup := by
      rw [List.append_assoc]
      exact nd
    have ih := ordOk_iff be r (done ++ [n]) all' nd' fun m hm => pos m (List.mem_cons_of_mem _ hm)
    have n0 := pos n List.mem_cons_self
    unfold ordOk
    rw [List.pairwise_cons]
    have key : ((aheadOf cs n.toNat).any fun i => !decide (i ∈ done)) = false ↔ ∀ b ∈ r, NB cs n b := by
      rw [List.any_eq_false]
      constructor
      · intro h b hb
        have b0 := pos b (List.mem_cons_of_mem _ hb)
        unfold NB
        cases hh : beforeN cs b.toNat n.toNat with
        | false => rfl
        | true =>
          have := h b (ahead_mem.mpr ⟨b0, hh⟩)
          have hd : b ∈ done := by simpa using this
          have := (List.nodup_append.mp nd).2.2 b hd b (List.mem_cons_of_mem _ hb)
          exact absurd rfl this
      · intro h i hi
        obtain ⟨i0, hb⟩ := ahead_mem.mp hi
        have lt := before_lt hb
        rcases List.mem_append.mp (all i i0 (by omega)) with hd | hd
        · simp [hd]
        · rcases List.mem_cons.mp hd with rfl | hd
          · rw [before_self be] at hb
            cases hb
          · have := h i hd
            unfold NB at this
            rw [this] at hb
            cases hb
    by_cases q : ((aheadOf cs n.toNat).any fun i => !decide (i ∈ done)) = true
    · rw [if_pos q]
      constructor
      · intro h
        cases h
      · intro h
        rw [key.mpr h.1] at q
        cases q
    · rw [if_neg q, ih]
      have q := key.mp (by simpa using q)
      exact ⟨fun h => ⟨q, h⟩, fun h => h.2⟩
/-- an order, told by its ints -/
def OrdN (cs : List Cl) (ns : List Int) : Prop := ns.Perm (rgI cs.length) ∧ ns.Pairwise (NB cs)
theorem nodup_lenI : ∀ (a b : List Int), a.Nodup → (∀ x ∈ a, x ∈ b) → a.length ≤ b.length
  | [], _, _, _ => Nat.zero_le _
  | x :: r, b, nd, h => by
    have nd := List.nodup_cons.mp nd
    have hx := h x List.mem_cons_self
    have := nodup_lenI r (b.erase x) nd.2 fun y hy => (List.mem_erase_of_ne (fun e : y = x => nd.1 (by rw [← e]; exact hy))).mpr (h y (List.mem_cons_of_mem _ hy))
    rw [List.length_erase_of_mem hx] at this
    have l := List.length_pos_of_mem hx
    rw [List.length_cons]
    omega
theorem perm_iff {n : Nat} {ns : List Int} : ns.Perm (rgI n) ↔ (∀ i ∈ ns, 0 ≤ i ∧ i < n) ∧ ns.length = n ∧ ns.Nodup := by
  constructor
  · intro h
    exact ⟨fun i hi => mem_rgI.mp (h.mem_iff.mp hi), by rw [h.length_eq, len_rgI], h.nodup_iff.mpr (nodup_rgI n)⟩
  · rintro ⟨h1, h2, h3⟩
    refine (List.perm_ext_iff_of_nodup h3 (nodup_rgI n)).mpr fun i => ⟨fun hi => mem_rgI.mpr (h1 i hi), fun hi => Classical.byContradiction fun hc => ?_⟩
    have := nodup_lenI (i :: ns) (rgI n) (List.nodup_cons.mpr ⟨hc, h3⟩) fun x hx => by
      rcases List.mem_cons.mp hx with rfl | hx
      · exact hi
      · exact mem_rgI.mpr (h1 x hx)
    rw [List.length_cons, len_rgI, h2] at this
    omega
theorem orderIn_ints {cs : List Cl} (be : ∀ c ∈ cs, c.b < c.e) (ns : List Int) : orderIn cs (tupI ns) = true ↔ OrdN cs ns := by
  have ei : (itemsOf (tupI ns)).map toI = ns := by
    show (ns.map PyData.int).map toI = ns
    rw [List.map_map]
    conv => rhs; rw [← List.map_id ns]
    rfl
  have el : (itemsOf (tupI ns)).length = ns.length := List.length_map _
  have ea : areNums (tupI ns) cs.length = true ↔ ∀ i ∈ ns, 0 ≤ i ∧ i < cs.length := by
    show (ns.map PyData.int).all (fun d => isInt d && (decide (0 ≤ toI d) && decide (toI d < (cs.length : Int)))) = true ↔ _
    rw [List.all_map, List.all_eq_true]
    constructor
    · intro h i hi
      have := h i hi
      have : (true && (decide (0 ≤ i) && decide (i < (cs.length : Int)))) = true := this
      simpa using this
    · intro h i hi
      have := h i hi
      show (true && (decide (0 ≤ i) && decide (i < (cs.length : Int)))) = true
      simpa using this
  unfold orderIn OrdN
  rw [Bool.and_eq_true, Bool.and_eq_true, Bool.and_eq_true, ei, el, ea, decide_eq_true_iff, decide_eq_true_iff, perm_iff]
  constructor
  · rintro ⟨h1, h2, h3, h4⟩
    refine ⟨⟨h1, h2, h3⟩, (ordOk_iff be ns [] (fun i i0 i1 => ?_) h3 fun n hn => (h1 n hn).1).mp h4⟩
    exact (perm_iff.mpr ⟨h1, h2, h3⟩).mem_iff.mpr (mem_rgI.mpr ⟨i0, i1⟩)
  · rintro ⟨⟨h1, h2, h3⟩, h4⟩
    refine ⟨h1, h2, h3, (ordOk_iff be ns [] (fun i i0 i1 => ?_) h3 fun n hn => (h1 n hn).1).mpr h4⟩
    exact (perm_iff.mpr ⟨h1, h2, h3⟩).mem_iff.mpr (mem_rgI.mpr ⟨i0, i1⟩)
/-- an order that grows -/
structure AnyO (cs : List Cl) (ns left : List Int) : Prop where
  pm : (ns ++ left).Perm (rgI cs.length)
  pw : ns.Pairwise (NB cs)
  ac : ∀ a ∈ ns, ∀ b ∈ left, NB cs a b
theorem AnyO.start (cs : List Cl) : AnyO cs [] (rgI cs.length) := ⟨List.Perm.refl _, .nil, fun a ha => absurd ha List.not_mem_nil⟩
theorem AnyO.step {cs : List Cl} {ns left : List Int} {one : Int} (h : AnyO cs ns left) (ho : one ∈ left) (hf : ∀ far ∈ left, beforeN cs far.toNat one.toNat = false) : AnyO cs (ns ++ [one]) (left.filter fun f => !decide (f = one)) := by
  have nl : left.Nodup := (List.nodup_append.mp (h.pm.nodup_iff.mpr (nodup_rgI _))).2.1
  have p : left.Perm (one :: left.filter fun f => !decide (f = one)) := by
    have e : left.erase one = left.filter fun f => !decide (f = one) := by
      rw [nl.erase_eq_filter]
      congr 1
    rw [← e]
    exact List.perm_cons_erase ho
  refine ⟨?_, ?_, fun a ha b hb => ?_⟩
  · rw [List.append_assoc]
    exact (List.Perm.append_left ns p.symm).trans h.pm
  · rw [List.pairwise_append]
    exact ⟨h.pw, List.pairwise_singleton _ _, fun a ha b hb => by
      obtain rfl := List.mem_singleton.mp hb
      exact h.ac a ha _ ho⟩
  · replace hb := (List.mem_filter.mp hb).1
    rcases List.mem_append.mp ha with ha | ha
    · exact h.ac a ha b hb
    · obtain rfl := List.mem_singleton.mp ha
      exact hf b hb
theorem min_of {cs : List Cl} : ∀ left : List Int, left ≠ [] → (∀ i ∈ left, 0 ≤ i ∧ i < cs.length) → ∃ one ∈ left, ∀ far ∈ left, ∀ c d, cs[one.toNat]? = some c → cs[far.toNat]? = some d → c.b ≤ d.b
  | [], h, _ => absurd rfl h
  | [x], _, _ => ⟨x, List.mem_singleton.mpr rfl, fun far hf c d hc hd => by
      obtain rfl := List.mem_singleton.mp hf
      rw [hc] at hd
      rw [Option.some.inj hd]
      exact Int.le_refl _⟩
  | x :: y :: r, _, hr => by
    obtain ⟨m, hm, hmin⟩ := min_of (cs := cs) (y :: r) (by simp) fun i hi => hr i (List.mem_cons_of_mem _ hi)
    have hx := hr x List.mem_cons_self
    have hmr := hr m (List.mem_cons_of_mem _ hm)
    have ex : cs[x.toNat]? = some (cs[x.toNat]'(by omega)) := by simp [show x.toNat < cs.length by omega]
    have em : cs[m.toNat]? = some (cs[m.toNat]'(by omega)) := by simp [show m.toNat < cs.length by omega]
    by_cases l : (cs[x.toNat]'(by omega)).b ≤ (cs[m.toNat]'(by omega)).b
    · refine ⟨x, List.mem_cons_self, fun far hf c d hc hd => ?_⟩
      rw [ex] at hc
      obtain rfl := Option.some.inj hc
      rcases List.mem_cons.mp hf with rfl | hf
      · rw [ex] at hd
        rw [Option.some.inj hd]
        exact Int.le_refl _
      · exact Int.le_trans l (hmin far hf _ d em hd)
    · refine ⟨m, List.mem_cons_of_mem _ hm, fun far hf c d hc hd => ?_⟩
      rcases List.mem_cons.mp hf with rfl | hf
      · rw [em] at hc
        rw [ex] at hd
        obtain rfl := Option.some.inj hc
        obtain rfl := Option.some.inj hd
        omega
      · exact hmin far hf c d hc hd
theorem AnyO.free {cs : List Cl} {ns left : List Int} (be : ∀ c ∈ cs, c.b < c.e) (h : AnyO cs ns left) (hl : left ≠ []) : ∃ one ∈ left, ∀ far ∈ left, beforeN cs far.toNat one.toNat = false := by
  have hr : ∀ i ∈ left, 0 ≤ i ∧ i < cs.length := fun i hi => mem_rgI.mp (h.pm.mem_iff.mp (List.mem_append_right _ hi))
  obtain ⟨m, hm, hmin⟩ := min_of left hl hr
  refine ⟨m, hm, fun far hf => ?_⟩
  cases hb : beforeN cs far.toNat m.toNat with
  | false => rfl
  | true =>
    obtain ⟨l1, l2⟩ := before_lt hb
    have e1 : cs[far.toNat]? = some cs[far.toNat] := by simp [l1]
    have e2 : cs[m.toNat]? = some cs[m.toNat] := by simp [l2]
    rw [before_of e1 e2] at hb
    have hb := of_decide_eq_true hb
    have := be _ (List.mem_of_getElem? e1)
    have := hmin far hf _ _ e2 e1
    omega
theorem AnyO.fin {cs : List Cl} {ns : List Int} (h : AnyO cs ns []) : OrdN cs ns := ⟨by have := h.pm; rwa [List.append_nil] at this, h.pw⟩
end SB
end

section
set_option Elab.async false
set_option linter.all false
set_option maxRecDepth 100000
set_option maxHeartbeats 2000000
set_option autoImplicit false
/-! SbL10: an order is drawn. -/
namespace SB
open PySem PySem.Spec PyProof.Rows L2 Evl
abbrev s__law_any_order : Stmt := topS 59
abbrev N__law_any_order : List Str := ["_law_state", "_law_calls_so", "_law_found_so", "_law_left", "_law_free", "_law_k", "_law_far", "_law_one"]
theorem sc__law_any_order : FnScope N__law_any_order ["_law_state", "_law_calls_so"] (C8.fnScope s__law_any_order) := C8.fnScope_by (by decide +kernel)
def lcs__law_any_order_20 : Scope := lcSc (stV ((stB ((C8.fnBody s__law_any_order).getD 1 (.Pass ⟨0, 0, 0, 0⟩))).getD 0 (.Pass ⟨0, 0, 0, 0⟩)))
local macro_rules | `(tactic| walk_at "sd") => `(tactic| first | with_reducible rfl | assumption | exact SeqD.t | exact SeqD.l | rfl | omega)
local macro_rules | `(tactic| walk_at "dt") => `(tactic| first | assumption | exact Dt.int _ | exact Dt.bl _ | exact Dt.str _ | exact Dt.non | exact Dt.ex (by assumption) (by assumption))
local macro_rules | `(tactic| walk_at "ev") => `(tactic| first
  | assumption
  | with_reducible apply ed_int
  | with_reducible apply ed_str
  | with_reducible apply ed_bl
  | with_reducible apply ed_non
  | with_reducible apply ead_nil
  | with_reducible exact et_yes
  | with_reducible exact eo_none
  | exact evd_var rfl (by walk_at "dt")
  | ((with_reducible apply td_test); walk_at "ev")
  | ((with_reducible apply td_B); walk_at "ev")
  | ((with_reducible apply et_not); walk_at "ev")
  | ((with_reducible apply et_and); walk_at "ev"; intro _; walk_at "ev")
  | ((with_reducible apply et_or); walk_at "ev"; intro _; walk_at "ev")
  | ((with_reducible apply ead_cons); walk_at "ev"; walk_at "ev")
  | ((with_reducible apply eod_some); walk_at "ev")
  | ((with_reducible apply evd_tup); walk_at "ev"; first | decide | (focus (simp; done)) | omega)
  | ((with_reducible apply evd_lst); walk_at "ev"; first | decide | (focus (simp; done)) | omega)
  | ((with_reducible apply ed_not); walk_at "ev")
  | ((with_reducible apply ed_and); walk_at "ev"; intro _; walk_at "ev")
  | ((with_reducible apply ed_or); walk_at "ev"; intro _; walk_at "ev")
  | ((with_reducible apply ed_i0); walk_at "ev"; walk_at "ev")
  | ((with_reducible apply ed_b0); walk_at "ev"; walk_at "ev")
  | ((with_reducible apply ed_eqI); walk_at "ev"; walk_at "ev")
  | ((with_reducible apply ed_eqS); walk_at "ev"; walk_at "ev")
  | ((with_reducible apply ed_eqB); walk_at "ev"; walk_at "ev")
  | ((with_reducible apply ed_neI); walk_at "ev"; walk_at "ev")
  | ((with_reducible apply ed_neS); walk_at "ev"; walk_at "ev")
  | ((with_reducible apply ed_neB); walk_at "ev"; walk_at "ev")
  | ((with_reducible apply ed_isN); walk_at "ev"; walk_at "ev")
  | ((with_reducible apply ed_notN); walk_at "ev"; walk_at "ev")
  | ((with_reducible apply ed_chain); walk_at "ev"; walk_at "ev"; walk_at "ev")
  | ((with_reducible apply ed_ixT); walk_at "ev"; walk_at "ev"; walk_at "sd")
  | ((with_reducible apply ed_ixL); walk_at "ev"; walk_at "ev"; walk_at "sd")
  | ((with_reducible apply ed_isi); walk_at "ev"; (first | exact kit_int _ | exact kit_bool _ | exact kit_tuple _ | exact kit_str _))
  | ((with_reducible apply ed_len); walk_at "ev"; walk_at "sd")
  | ((with_reducible apply ed_call); walk_at "ev"; (first | assumption | exact ⟨_, rfl, rfl⟩ | exact ⟨_, _, rfl, rfl⟩ | exact ⟨_, _, _, rfl, rfl⟩); exact rfl)
  | ((with_reducible apply ed_max2); walk_at "ev"; walk_at "ev")
  | ((with_reducible apply ed_min2); walk_at "ev"; walk_at "ev")
  | ((with_reducible apply ed_list); walk_at "ev"; walk_at "sd")
  | ((with_reducible apply ed_tuple); walk_at "ev"; walk_at "sd")
  | ((with_reducible apply ed_neg); walk_at "ev"))

section
variable {K : PySem.W.Frag} {σ : L2.St} {H H' : Hp} {ta tb tc te : TE} {t : TT}
theorem rgD_ints (n : Nat) : rgD 0 n = (rgI n).map PyData.int := by
  unfold rgD rgI
  rw [List.map_map]
  exact List.map_congr_left fun i _ => by
    show PyData.int (0 + (i : Int)) = PyData.int (i : Int)
    rw [Int.zero_add]
theorem evn_listRgI {n : Nat} (ha : EvD K ta σ H (.int (n : Int))) (hz : n ≤ 40000) : EvN K (tLstRg (tRg1 ta)) σ H ((rgI n).map PyData.int) := fun H1 e Q q =>
  ha.i H1 e _ fun H2 c => ⟨n, rfl, by unfold RgOk; omega, fun l hl => q l _ _ (fresh_back c hl) (c.trans (Ex.new hl)) upd_same (by
    rw [← rgD_ints]
    exact dt_rgV n)⟩
theorem s_tupN {i j : Nat} {d : PyData} {es : List PyData} {D : Ends} (h : EvD K ta σ H d) (h' : EvN K tb σ H es)
    (k : ∀ v p xs H1 H2, Ex H H1 → Dt K No H1 v d → H1 p = none → Ex H1 H2 → H2 p = some (.lst xs) → DtAll K No H2 xs es → D.nx ((σ.set i (some v)).set j (some (.ref p))) H2) : tAsg (tTup (tCons ta (tCons tb tNil))) (gTup K 2 (gCons (gName i) (gCons (gName j) gNil))) D σ H :=
  h.go fun v H1 e1 hv => h' H1 e1 _ fun p xs H2 hp e2 h2 hx => ⟨by show 2 ≤ sizeLine; decide, fun q hq => ⟨q, _, rfl, SqT.of upd_same, rfl, v, _, rfl, .ref p, _, rfl, rfl, k v p xs H1 _ e1 hv hp (e2.trans (Ex.new hq)) (Ex.new hq p _ h2) (hx.ex (Ex.new hq))⟩⟩
theorem eqv_ints : ∀ ns ms : List Int, PyData.eqvAll (ns.map PyData.int) (ms.map PyData.int) = decide (ns = ms)
  | [], [] => rfl
  | [], m :: r => by simp [PyData.eqvAll]
  | n :: r, [] => by simp [PyData.eqvAll]
  | n :: r, m :: q => by
    have ih := eqv_ints r q
    simp only [List.map_cons, PyData.eqvAll, PyData.eqv, ih]
    rw [Bool.eq_iff_iff]
    simp
theorem eqvL_ints (ns ms : List Int) : PyData.eqv (.list (ns.map PyData.int)) (.list (ms.map PyData.int)) = decide (ns = ms) := by
  simp only [PyData.eqv]
  exact eqv_ints ns ms
theorem ed_neL {ns ms : List Int} (ha : EvD K ta σ H (.list (ns.map PyData.int))) (hb : EvD K tb σ H (.list (ms.map PyData.int))) : EvD K (tOp (rNeD K) ta tb) σ H (.bool (!decide (ns = ms))) := evd_is (ed_neD ha hb (PySem.W.shaped_ints ns) (PySem.W.shaped_ints ms)) (by rw [eqvL_ints])
theorem ed_eqL {ns ms : List Int} (ha : EvD K ta σ H (.list (ns.map PyData.int))) (hb : EvD K tb σ H (.list (ms.map PyData.int))) : EvD K (tOp (rEqD K) ta tb) σ H (.bool (decide (ns = ms))) := evd_is (ed_eqD ha hb (PySem.W.shaped_ints ns) (PySem.W.shaped_ints ms)) (by rw [eqvL_ints])
/-- [1 for ..]: as many ones -/
theorem fm_ones (f : PyData → Bool) (ds : List PyData) : fm f (fun _ => .int 1) ds = ((ds.filter f).map fun _ => (1 : Int)).map PyData.int := by
  unfold fm
  rw [List.map_map]
  rfl
end
section
variable {P : Program} {w : World} {K : PySem.W.Frag} {mg : Str → Option Value} {base : Heap} {A0 : Ad}
def spAnyOrder (K : PySem.W.Frag) (z : Sp3) : Sp := fun vs H Q _ => ∃ v cs j, vs = [.ref z.S, v] ∧ Dt K No H v (dCalls cs) ∧ noL (dCalls cs) = true ∧ (∀ c ∈ cs, c.b < c.e) ∧ cs.length ≤ 1000 ∧ SW z H (j + cs.length) ∧
  ∀ u H' ns, Kp z.bar H H' → SW z H' j → OrdN cs ns → Dt K No H' u (tupI ns) → Q u H'
def anySt (z : Sp3) (v f : V) (l : Addr) (rest : List (Option V)) : L2.St := [some (.ref z.S), some v, some f, some (.ref l)] ++ rest
theorem c__law_any_order (T : Tx A0 K w mg) (z : Sp3) : C8.Cal P w K mg base 4 "_law_any_order" (spAnyOrder K z) [] := by
  have c__law_of := c__law_of (P := P) (base := base) T z
  refine cal_of T.d__law_any_order sc__law_any_order (fun vs H Q E h => by obtain ⟨v, cs, j, rfl, _⟩ := h; rfl) (fun f cdv A outer s H vs Q E hr h => ?_)
  obtain ⟨v, cs, j, rfl, hv, nc, be, hz, sw, k⟩ := h
  refine ⟨_, (pss_cons (ps_asg (pe_tup (pa_cons (pe_tup pa_nil) (pa_cons (pe_listRg rfl (by rfl) T.list (prg_1 (by rfl) T.range (pe_callB call_len_seq (by rfl) T.len (by decide +kernel) (pa_cons (pv 1) pa_nil)))) pa_nil))) (pg_tup rfl (pgs_cons (pg_name (i := 2) sc__law_any_order.nd rfl (by first | exact Or.inl rfl | exact Or.inr rfl)) (pgs_cons (pg_name (i := 3) sc__law_any_order.nd rfl (by first | exact Or.inl rfl | exact Or.inr rfl)) pgs_nil))))
        (pss_cons (ps_while PassesOwn.never (pt_cmpR (op_neD hr.units) (pv 3) (pe_lst pa_nil) (nomark _)) (pss_cons (ps_setLc (i := 4) (own := [("_law_k", 5)]) (by rfl) sc__law_any_order.nd rfl rfl (sw_true rfl rfl rfl (by decide +kernel)) (pi_list (pv 3)) (blkOk_by (N := N__law_any_order) (sc := (C8.fnScope s__law_any_order)) (by decide +kernel)) (fun _ _ _ _ _ => (pg_name (i := 5) sc__law_any_order.nd rfl (by first | exact Or.inl rfl | exact Or.inr rfl))) (fun _ _ _ _ _ => (pts_one (pt_cmpR (show OpR _ _ (rEqD K) from (op_eqD hr.units)) (by (apply pe_lc (own := [("_law_far", 6)])); (focus (exact rfl)); (focus (exact sc__law_any_order.nd)); (focus (exact (show PI _ _ _ (iList K _) from pi_list (pv 3)))); (focus (exact blkOk_by (N := N__law_any_order) (sc := (relS (lcs__law_any_order_20) (C8.fnScope s__law_any_order))) (by decide +kernel))); (focus (exact fun _ _ _ _ _ => (pg_name (i := 6) sc__law_any_order.nd rfl (by first | exact Or.inl rfl | exact Or.inr rfl)))); (focus (exact fun _ _ _ _ _ => (pts_one (pt_cmpR op_lt (pe_ix (show IxR _ (rIxT K) from ix_tup) (pe_ix (show IxR _ (rIxT K) from ix_tup) (pv 1) (pv 6) (fun _ _ => rfl)) pe_int (fun _ _ => rfl)) (pe_ix (show IxR _ (rIxT K) from ix_tup) (pe_ix (show IxR _ (rIxT K) from ix_tup) (pv 1) (pv 5) (fun _ _ => rfl)) pe_int (fun _ _ => rfl)) (nomark _))))); (focus (exact (fun _ _ _ _ _ => pe_int))); all_goals first | (intro _; rfl) | skip) (pe_lst pa_nil) (nomark _)))) (fun _ _ _ _ _ => (pv 5)))
          (pss_cons (ps_set (i := 7) sc__law_any_order.nd rfl (by first | exact Or.inl rfl | exact Or.inr rfl) (C8.pe_c c__law_of hr (by decide) (by rfl) (pa_cons (pv 0) (pa_cons (pv 4) pa_nil))))
          (pss_one (ps_asg (pe_tup (pa_cons (pe_op op_catA (pv 2) (pe_tup (pa_cons (pv 7) pa_nil))) (pa_cons (pe_lc (own := [("_law_far", 6)]) (by rfl) sc__law_any_order.nd (pi_list (pv 3)) (blkOk_by (N := N__law_any_order) (sc := (C8.fnScope s__law_any_order)) (by decide +kernel)) (fun _ _ _ _ _ => (pg_name (i := 6) sc__law_any_order.nd rfl (by first | exact Or.inl rfl | exact Or.inr rfl))) (fun _ _ _ _ _ => (pts_one (pt_cmpR op_ne (pv 6) (pv 7) (nomark _)))) (fun _ _ _ _ _ => (pv 6))) pa_nil))) (pg_tup rfl (pgs_cons (pg_name (i := 2) sc__law_any_order.nd rfl (by first | exact Or.inl rfl | exact Or.inr rfl)) (pgs_cons (pg_name (i := 3) sc__law_any_order.nd rfl (by first | exact Or.inl rfl | exact Or.inr rfl)) pgs_nil))))))))
        (pss_one (ps_ret (pv 2))))), ?_⟩
  simp only [cxK, cxK2, List.map_cons, List.map_nil]
  have hv : Dt K No H v (.tuple (cs.map Cl.data)) := hv
  refine q_tupN (K := K) (d := tupI []) (es := (rgI cs.length).map PyData.int) (evd_tup (ds := []) ead_nil (by show 0 ≤ 100000; decide)) (evn_listRgI (evd_is (ed_len (evd_var rfl hv) .t) (by rw [List.length_map])) (by omega)) fun fv lp xs H1 H2 e1 hfv hlp e2 hl hxs => ?_
  obtain rfl := hxs.toInts
  have sw1 := sw.mono e1
  show tWhile _ _ _ _ _
  refine ⟨fun m σ H' => ∃ ns left fv lp o4 o5 o6 o7, σ = anySt z v fv lp [o4, o5, o6, o7] ∧ Kp z.bar H H' ∧ SW z H' (j + left.length) ∧ left.length = m ∧ AnyO cs ns left ∧ Dt K No H' fv (tupI ns) ∧ H' lp = some (.lst (left.map V.int)) ∧ ¬ z.bar lp,
    ⟨_, [], rgI cs.length, fv, lp, _, _, _, _, rfl, Kp.of (e1.trans e2), by rw [len_rgI]; exact sw1.mono e2, rfl, AnyO.start cs, hfv.ex e2, hl, sw1.nbar hlp⟩, fun m σ H' q => ?_⟩
  obtain ⟨ns, left, fv, lp, o4, o5, o6, o7, rfl, kp, swq, rfl, AO, hfv, hlp, nb⟩ := q
  have hv' := kp_noL hv nc kp
  have hleft : Dt K No H' (.ref lp) (.list (left.map PyData.int)) := .lst hlp (fun z => z) (DtAll.ints _)
  have hlr : ∀ i ∈ left, 0 ≤ i ∧ i < cs.length := fun i hi => mem_rgI.mp (AO.pm.mem_iff.mp (List.mem_append_right _ hi))
  have hll : left.length ≤ cs.length := by
    have := AO.pm.length_eq
    rw [List.length_append, len_rgI] at this
    omega
  refine (td_test (K := K) (ed_neL (ms := []) (evd_var rfl hleft) (evd_lst (ds := []) ead_nil (by show 0 ≤ 100000; decide)))) H' (Ex.refl H') _ fun H3 e3 => ?_
  by_cases hne : left = []
  · rw [decide_eq_true hne]
    subst hne
    rw [if_neg (by decide)]
    dsimp only
    refine ret_go ?_
    exact ⟨_, rfl, k fv H3 ns (kp.trans (Kp.of e3)) ((swq.mono e3).le (by show j ≤ j + 0; omega)) AO.fin (hfv.ex e3)⟩
  · rw [decide_eq_false hne, if_pos (by decide)]
    obtain ⟨free, hfree⟩ : ∃ free, left.filter (fun k => left.all fun far => !beforeN cs far.toNat k.toNat) = free := ⟨_, rfl⟩
    refine ⟨fun σ' H4 => ∃ ns left' fv lp o4 o5 o6 o7, σ' = anySt z v fv lp [o4, o5, o6, o7] ∧ Kp z.bar H H4 ∧ SW z H4 (j + left'.length) ∧ left'.length < left.length ∧ AnyO cs ns left' ∧ Dt K No H4 fv (tupI ns) ∧ H4 lp = some (.lst (left'.map V.int)) ∧ ¬ z.bar lp, fun σ' H4 q => ?_, ?_⟩
    · obtain ⟨ns, left', fv, lp, o4, o5, o6, o7, h1, h2, h3, h4, h5⟩ := q
      exact ⟨left'.length, h4, ns, left', fv, lp, o4, o5, o6, o7, h1, h2, h3, rfl, h5⟩
    have hleft3 := hleft.ex e3
    have hv3 := hv'.ex e3
    have callsat : ∀ i ∈ left, ∃ c, cs[i.toNat]? = some c ∧ atI (cs.map Cl.data) i = some c.data := fun i hi => by
      have hr := hlr i hi
      have e : cs[i.toNat]? = some (cs[i.toNat]'(by omega)) := by simp [show i.toNat < cs.length by omega]
      exact ⟨_, e, atI_of (j := i.toNat) (by omega) (by rw [List.getElem?_map, e]; rfl)⟩
    -- what is free
    refine asg_go ((evn_is (lcL_fil (K := K) (fun d => left.all fun far => !beforeN cs far.toNat (toI d).toNat) (evd_var rfl hleft3) (by rw [List.length_map]; omega) (show 5 < 8 by decide) fun d hd x H4 e4 hx => ?_) (es := free.map PyData.int) ?_).go fun pf vf H4 hpf e4 hf hvf => ?_)
    · obtain ⟨i, hi, rfl⟩ := List.mem_map.mp hd
      obtain ⟨c, hc, hca⟩ := callsat i hi
      obtain rfl := hx.toInt
      refine td_test (K := K) (evd_is (ed_eqL (ns := ((left.map PyData.int).filter fun d => beforeN cs (toI d).toNat i.toNat).map fun _ => (1 : Int)) (ms := []) (EvN.d (evn_is (evn_lcL (K := K) (fun d => beforeN cs (toI d).toNat i.toNat) (fun _ => .int 1) (evd_var rfl (hleft3.ex e4)) (by rw [List.length_map]; omega) fun d hd x H5 e5 hx => ?_) (fm_ones _ _))) (evd_lst (ds := []) ead_nil (by show 0 ≤ 100000; decide))) ?_)
      · obtain ⟨i2, hi2, rfl⟩ := List.mem_map.mp hd
        obtain ⟨c2, hc2, hca2⟩ := callsat i2 hi2
        refine tk_name (td_test (evd_is (ed_b0 (g := fun i j => decide (i < j)) (ed_ixT (ds := c2.items) (ed_ixT (evd_var rfl ((hv3.ex e4).ex e5)) (evd_var rfl hx) hca2) ed_int (data_e c2)) (ed_ixT (ds := c.items) (ed_ixT (evd_var rfl ((hv3.ex e4).ex e5)) (evd_var (d := .int i) rfl (.int _)) hca) ed_int (data_b c))) ?_)) (fun _ => ed_int) fun _ => rfl
        rw [← before_of hc2 hc]
        rfl
      · congr 1
        rw [Bool.eq_iff_iff]
        simp [List.filter_eq_nil_iff, toI]
    · rw [← hfree, List.filter_map]
      rfl
    have hfm : ∀ i ∈ free, i ∈ left ∧ ∀ far ∈ left, beforeN cs far.toNat i.toNat = false := fun i hi => by
      rw [← hfree, List.mem_filter, List.all_eq_true] at hi
      exact ⟨hi.1, fun far hf => by simpa using hi.2 far hf⟩
    have hfn : free ≠ [] := fun e => by
      obtain ⟨one, ho, hf⟩ := AO.free be hne
      have : one ∈ free := by
        rw [← hfree, List.mem_filter, List.all_eq_true]
        exact ⟨ho, fun far hfar => by simp [hf far hfar]⟩
      rw [e] at this
      exact absurd this List.not_mem_nil
    have hfl : free.length ≤ left.length := by
      rw [← hfree]
      exact List.length_filter_le _ _
    have lpos : 0 < left.length := List.length_pos_iff.mpr hne
    have sw3 := swq.mono e3
    have esw : j + left.length = (j + (left.length - 1)) + 1 := by omega
    rw [esw] at sw3
    refine asg_go ?_
    refine ⟨_, rfl, _, rfl, .ref pf, free.map PyData.int, j + (left.length - 1), rfl, .lst hf (sw3.nbar hpf) (hvf.any (noLs_ints free)), by simp [hfn], by rw [List.length_map]; omega, sw3.mono e4, fun d hd ov H5 kp5 sw5 hov => ?_⟩
    obtain ⟨one, hone, rfl⟩ := List.mem_map.mp hd
    obtain rfl := hov.toInt
    have ho := hfm one hone
    have hfv5 := kp_noL ((hfv.ex e3).ex e4) (noLs_ints ns) kp5
    have hlp5 := kp5.k lp _ nb (e4 _ _ (e3 _ _ hlp))
    have hleft5 : Dt K No H5 (.ref lp) (.list (left.map PyData.int)) := .lst hlp5 (fun z => z) (DtAll.ints _)
    have nsl : ns.length ≤ cs.length := by
      have := AO.pm.length_eq
      rw [List.length_append, len_rgI] at this
      omega
    refine s_tupN (K := K) (d := tupI (ns ++ [one])) (es := (left.filter fun f => !decide (f = one)).map PyData.int) (evd_is (evd_cat (ds := ns.map PyData.int) (es := [.int one]) (evd_var rfl hfv5) (evd_tup (ead_cons (evd_var rfl (.int _)) ead_nil) (by show 1 ≤ 100000; decide)) (by rw [List.length_map]; show ns.length + 1 ≤ _; omega)) (by rw [tupI, List.map_append]; rfl))
      (evn_is (lcL_fil (K := K) (fun d => !decide (toI d = one)) (evd_var rfl hleft5) (by rw [List.length_map]; omega) (show 6 < 8 by decide) fun d hd x H6 e6 hx => ?_) ?_) fun fv2 lp2 xs2 H6 H7 e6 hfv2 hlp2 e7 hl2 hxs2 => ?_
    · obtain ⟨i, hi, rfl⟩ := List.mem_map.mp hd
      exact td_test (ed_neI (evd_var rfl hx) (evd_var rfl (.int _)))
    · rw [List.filter_map]
      rfl
    · obtain rfl := hxs2.toInts
      have AO2 := AO.step ho.1 ho.2
      have lt : (left.filter fun f => !decide (f = one)).length < left.length := by
        have hx : ∃ x ∈ left, ¬ (!decide (x = one)) = true := ⟨one, ho.1, by simp⟩
        exact List.length_filter_lt_length_iff_exists.mpr hx
      exact ⟨ns ++ [one], _, fv2, lp2, _, _, _, _, rfl, ((kp.trans (Kp.of (e3.trans e4))).trans kp5).trans (Kp.of (e6.trans e7)), (sw5.mono (e6.trans e7)).le (by omega), lt, AO2, hfv2.ex e7, hl2, (sw5.mono e6).nbar hlp2⟩
end
end SB
end

section
set_option Elab.async false
set_option linter.all false
set_option maxRecDepth 100000
set_option maxHeartbeats 2000000
set_option autoImplicit false
/-! SbL11: is it an order, by the law. -/
namespace SB
open PySem PySem.Spec PyProof.Rows L2 Evl
abbrev s__law_is_order : Stmt := topS 60
abbrev N__law_is_order : List Str := ["_law_calls_so", "_law_thing", "_law_one", "_law_k", "_law_far"]
theorem sc__law_is_order : FnScope N__law_is_order ["_law_calls_so", "_law_thing"] (C8.fnScope s__law_is_order) := C8.fnScope_by (by decide +kernel)
local macro_rules | `(tactic| walk_at "sd") => `(tactic| first | with_reducible rfl | assumption | exact SeqD.t | exact SeqD.l | rfl | omega)
local macro_rules | `(tactic| walk_at "dt") => `(tactic| first | assumption | exact Dt.int _ | exact Dt.bl _ | exact Dt.str _ | exact Dt.non | exact Dt.ex (by assumption) (by assumption))
local macro_rules | `(tactic| walk_at "ev") => `(tactic| first
  | assumption
  | with_reducible apply ed_int
  | with_reducible apply ed_str
  | with_reducible apply ed_bl
  | with_reducible apply ed_non
  | with_reducible apply ead_nil
  | with_reducible exact et_yes
  | with_reducible exact eo_none
  | exact evd_var rfl (by walk_at "dt")
  | ((with_reducible apply td_test); walk_at "ev")
  | ((with_reducible apply td_B); walk_at "ev")
  | ((with_reducible apply et_not); walk_at "ev")
  | ((with_reducible apply et_and); walk_at "ev"; intro _; walk_at "ev")
  | ((with_reducible apply et_or); walk_at "ev"; intro _; walk_at "ev")
  | ((with_reducible apply ead_cons); walk_at "ev"; walk_at "ev")
  | ((with_reducible apply eod_some); walk_at "ev")
  | ((with_reducible apply evd_tup); walk_at "ev"; first | decide | (focus (simp; done)) | omega)
  | ((with_reducible apply evd_lst); walk_at "ev"; first | decide | (focus (simp; done)) | omega)
  | ((with_reducible apply ed_not); walk_at "ev")
  | ((with_reducible apply ed_and); walk_at "ev"; intro _; walk_at "ev")
  | ((with_reducible apply ed_or); walk_at "ev"; intro _; walk_at "ev")
  | ((with_reducible apply ed_i0); walk_at "ev"; walk_at "ev")
  | ((with_reducible apply ed_b0); walk_at "ev"; walk_at "ev")
  | ((with_reducible apply ed_eqI); walk_at "ev"; walk_at "ev")
  | ((with_reducible apply ed_eqS); walk_at "ev"; walk_at "ev")
  | ((with_reducible apply ed_eqB); walk_at "ev"; walk_at "ev")
  | ((with_reducible apply ed_neI); walk_at "ev"; walk_at "ev")
  | ((with_reducible apply ed_neS); walk_at "ev"; walk_at "ev")
  | ((with_reducible apply ed_neB); walk_at "ev"; walk_at "ev")
  | ((with_reducible apply ed_isN); walk_at "ev"; walk_at "ev")
  | ((with_reducible apply ed_notN); walk_at "ev"; walk_at "ev")
  | ((with_reducible apply ed_chain); walk_at "ev"; walk_at "ev"; walk_at "ev")
  | ((with_reducible apply ed_ixT); walk_at "ev"; walk_at "ev"; walk_at "sd")
  | ((with_reducible apply ed_ixL); walk_at "ev"; walk_at "ev"; walk_at "sd")
  | ((with_reducible apply ed_isi); walk_at "ev"; (first | exact kit_int _ | exact kit_bool _ | exact kit_tuple _ | exact kit_str _))
  | ((with_reducible apply ed_len); walk_at "ev"; walk_at "sd")
  | ((with_reducible apply ed_call); walk_at "ev"; (first | assumption | exact ⟨_, rfl, rfl⟩ | exact ⟨_, _, rfl, rfl⟩ | exact ⟨_, _, _, rfl, rfl⟩); exact rfl)
  | ((with_reducible apply ed_max2); walk_at "ev"; walk_at "ev")
  | ((with_reducible apply ed_min2); walk_at "ev"; walk_at "ev")
  | ((with_reducible apply ed_list); walk_at "ev"; walk_at "sd")
  | ((with_reducible apply ed_tuple); walk_at "ev"; walk_at "sd")
  | ((with_reducible apply ed_neg); walk_at "ev"))

section
variable {K : PySem.W.Frag} {σ : L2.St} {H H' : Hp} {ta tb tc te : TE} {t : TT}
theorem sorted_range : ∀ (ms : List Int) (n : Nat), ms.Perm (rgI n) → ms.Pairwise (fun a b => a ≤ b) → ms = rgI n := fun ms n p s => by
  refine List.Perm.eq_of_pairwise (le := fun a b : Int => a ≤ b) (fun a b _ _ h1 h2 => Int.le_antisymm h1 h2) s ?_ p
  unfold rgI
  rw [List.pairwise_map]
  exact List.Pairwise.imp (fun {a b} (h : a < b) => by omega) List.pairwise_lt_range
/-- the walk, told by data -/
theorem WalkD.walk {J : It} {ds : List PyData} (w : WalkD K J H ds) : Walk J ds.length (fun H' => Ex H H') (fun i H1 x H' => ∃ d, ds[i]? = some d ∧ Ex H1 H' ∧ Dt K No H' x d) :=
  ⟨fun i H1 hi x => w.goes i H1 hi x, fun H1 x => w.stops H1 x, fun i H1 x H' hi z y => ⟨ds[i], by simp [hi], w.yields i ds[i] H1 x H' (by simp [hi]) z y⟩⟩
end
section
variable {P : Program} {w : World} {K : PySem.W.Frag} {mg : Str → Option Value} {base : Heap} {A0 : Ad}
abbrev spLIsOrder (K : PySem.W.Frag) : Sp := spP K 2 fun ds d => ∃ (cs : List Cl) (x : PyData), (∀ c ∈ cs, c.b < c.e) ∧ cs.length ≤ 1000 ∧ (itemsOf x).length ≤ 20000 ∧ ds = [dCalls cs, x] ∧ d = .bool (orderIn cs x)
theorem c__law_is_order (T : Tx A0 K w mg) : C8.Cal P w K mg base 2 "_law_is_order" (spLIsOrder K) [] := by
  have c__law_is_whole := c__law_is_whole (P := P) (base := base) T
  refine cal_of T.d__law_is_order sc__law_is_order (fun vs H Q E h => h.1) (fun f cdv A outer s H vs Q E hr h => ?_)
  obtain ⟨hl, ds, d, hd, ⟨cs, x, be, hz, hx, rfl, rfl⟩, k⟩ := h
  refine ⟨_, (pss_cons (ps_if (PW.pt (pw_or (pt_not (pt_val (pe_callB call_isi (by rfl) T.isinstance (by decide +kernel) (pa_cons (pv 1) (pa_cons (pe_bltn (v := .ty "tuple") (by rfl) T.tuple PyProof.Rows.boot_tuple rfl) pa_nil))))) (pw_or1 (pt_cmpR (op_neE (hu65 hr)) (pe_lc (own := [("_law_one", 2)]) (by rfl) sc__law_is_order.nd (pi_tup (pv 1)) (blkOk_by (N := N__law_is_order) (sc := (C8.fnScope s__law_is_order)) (by decide +kernel)) (fun _ _ _ _ _ => (pg_name (i := 2) sc__law_is_order.nd rfl (by first | exact Or.inl rfl | exact Or.inr rfl))) (fun _ _ _ _ _ => (pts_one (pt_not (pt_val (C8.pe_c c__law_is_whole hr (by decide) (by rfl) (pa_cons (pv 2) (pa_cons pe_int (pa_cons (pe_op op_sub (pe_callB (show CallR _ _ (rLenS K) from call_len_seq) (by rfl) T.len (by decide +kernel) (pa_cons (pv 0) pa_nil)) pe_int) pa_nil)))))))) (fun _ _ _ _ _ => (pv 2))) (pe_lst pa_nil) (nomark _))))) (pss_one (ps_ret pe_bl)) pss_nil)
        (pss_cons (ps_if (pt_cmpR (op_neD hr.units) (pe_callB cr_sortedTI (by rfl) T.sorted (by decide +kernel) (pa_cons (pv 1) pa_nil)) (pe_listRg rfl (by rfl) T.list (prg_1 (by rfl) T.range (pe_callB call_len_seq (by rfl) T.len (by decide +kernel) (pa_cons (pv 0) pa_nil)))) (nomark _)) (pss_one (ps_ret pe_bl)) pss_nil)
        (pss_cons (ps_for PassesOwn.never rfl (pi_enumT (by rfl) T.enumerate (pa_cons (pv 1) pa_nil)) (pg_tup rfl (pgs_cons (pg_name (i := 3) sc__law_is_order.nd rfl (by first | exact Or.inl rfl | exact Or.inr rfl)) (pgs_cons (pg_name (i := 2) sc__law_is_order.nd rfl (by first | exact Or.inl rfl | exact Or.inr rfl)) pgs_nil))) (pss_one (ps_if (pt_cmpR (op_neD hr.units) (pe_lc (own := [("_law_far", 4)]) (by rfl) sc__law_is_order.nd (pi_tup (pe_slice sl_tupA (pv 1) po_none (po_some (pv 3)))) (blkOk_by (N := N__law_is_order) (sc := (C8.fnScope s__law_is_order)) (by decide +kernel)) (fun _ _ _ _ _ => (pg_name (i := 4) sc__law_is_order.nd rfl (by first | exact Or.inl rfl | exact Or.inr rfl))) (fun _ _ _ _ _ => (pts_one (pt_cmpR op_lt (pe_ix (show IxR _ (rIxT K) from ix_tup) (pe_ix (show IxR _ (rIxT K) from ix_tup) (pv 0) (pv 2) (fun _ _ => rfl)) pe_int (fun _ _ => rfl)) (pe_ix (show IxR _ (rIxT K) from ix_tup) (pe_ix (show IxR _ (rIxT K) from ix_tup) (pv 0) (pv 4) (fun _ _ => rfl)) pe_int (fun _ _ => rfl)) (nomark _)))) (fun _ _ _ _ _ => pe_int)) (pe_lst pa_nil) (nomark _)) (pss_one (ps_ret pe_bl)) pss_nil)))
        (pss_one (ps_ret pe_bl))))), ?_⟩
  simp only [cxK, cxK2, List.map_cons, List.map_nil]
  obtain ⟨v, u, rfl, hv, hu⟩ := hd.two
  have hv : Dt K No H v (.tuple (cs.map Cl.data)) := hv
  have hlen : ∀ {σ : L2.St} {H1 : Hp}, Ex H H1 → σ[0]? = some (some v) → EvD K (tCB (rLenS K) (tCons (tVar 0) tNil)) σ H1 (.int (cs.length : Int)) := fun e h => evd_is (ed_len (evd_var h (hv.ex e)) .t) (by rw [List.length_map])
  have tst : EvT (tOr (tNot (tB (tCB (rIsi K) (tCons (tVar 1) (tCons (tC (.ty "tuple")) tNil)))))
      (tTest (tOp (rNeE K) (tLc (iTup K (tVar 1)) (gName 2) (tNot (tB (tCall (spWhole K) [] C8.E0 (tCons (tVar 2) (tCons (tC (.int 0)) (tCons (tOp (rI0 fun i j => .int (i - j)) (tCB (rLenS K) (tCons (tVar 0) tNil)) (tC (.int 1))) tNil)))))) (tVar 2) [2]) (tLst tNil)))) (L2.start N__law_is_order [v, u]) H (!areNums x cs.length) := by
    by_cases ht : isTup x = true
    · obtain ⟨xs, rfl⟩ : ∃ xs, x = .tuple xs := by cases x <;> first | exact ⟨_, rfl⟩ | cases ht
      have hx : xs.length ≤ 20000 := hx
      refine et_is (et_or (et_not (td_B (ed_isi (evd_var rfl hu) (kit_tuple _)))) fun _ => td_test (ed_neE (EvN.d (lcT_fil (K := K) (fun d => !isWh 0 ((cs.length : Int) - 1) d) (evd_var rfl hu) (by omega) (show 2 < 5 by decide) fun d hd y H1 e1 hy => ?_)) (evd_lst (ds := []) ead_nil (by show 0 ≤ 100000; decide)))) ?_
      · exact et_not (td_B (ed_call (ead_cons (evd_var rfl hy) (ead_cons ed_int (ead_cons (ed_i0 (g := fun i j => i - j) (hlen e1 rfl) ed_int) ead_nil))) ⟨d, 0, _, rfl, rfl⟩ rfl))
      · show (!true || !(xs.filter fun d => !isWh 0 ((cs.length : Int) - 1) d).isEmpty) = !(xs.all fun d => isInt d && (decide (0 ≤ toI d) && decide (toI d < (cs.length : Int))))
        have e : (fun d => isInt d && (decide (0 ≤ toI d) && decide (toI d < (cs.length : Int)))) = isWh 0 ((cs.length : Int) - 1) := by
          funext d
          unfold isWh
          congr 2
          rw [decide_eq_decide]
          omega
        rw [e]
        show (!(xs.filter fun d => !isWh 0 ((cs.length : Int) - 1) d).isEmpty) = _
        congr 1
        rw [Bool.eq_iff_iff, List.isEmpty_iff, List.filter_eq_nil_iff, List.all_eq_true]
        simp
    · refine et_is (et_orT (et_is (et_not (td_B (ed_isi (evd_var rfl hu) (kit_tuple _)))) ?_)) ?_
      · cases x <;> first | rfl | exact absurd rfl ht
      · cases x <;> first | rfl | exact absurd rfl ht
  cases hA : areNums x cs.length with
  | false =>
    refine q_hit tst (by rw [hA]; rfl) fun H1 e1 => sd_ret (d := .bool (orderIn cs x)) (evd_is ed_bl ?_) fun v H2 e => k v H2 (e1.trans e)
    unfold orderIn
    rw [hA]
    rfl
  | true =>
    refine q_skip tst (by rw [hA]; rfl) fun H1 e1 => ?_
    obtain ⟨ns, rfl, hn, ens⟩ := areNums_ints hA
    have hx : ns.length ≤ 20000 := by
      have : (ns.map PyData.int).length ≤ 20000 := hx
      rwa [List.length_map] at this
    have hu1 := hu.ex e1
    obtain ⟨a, xs, rfl, hs, hd⟩ := hu1.toTup
    obtain rfl := hd.toInts
    have iff := orderIn_ints be ns
    obtain ⟨b, hb⟩ : ∃ b : Bool, b = false ↔ ns.Perm (rgI cs.length) := by
      by_cases h : ns.Perm (rgI cs.length)
      · exact ⟨false, ⟨fun _ => h, fun _ => rfl⟩⟩
      · exact ⟨true, ⟨fun z => (nomatch z), fun z => absurd z h⟩⟩
    have srt : EvT (tTest (tOp (rNeD K) (tCB (rSortedTI K) (tCons (tVar 1) tNil)) (tLstRg (tRg1 (tCB (fun xs H Q => ∃ p ys, xs = [V.ref p] ∧ (SqL K H p ys ∨ SqT K H p ys) ∧ Q (V.int ys.length) H) (tCons (tVar 0) tNil)))))) (L2.start N__law_is_order [v, .ref a]) H1 b := fun H2 e2 Q q =>
      ⟨_, rfl, a, ns, rfl, ex_t e2 hs, fun ms p pm st hp => (evn_listRgI (K := K) (n := cs.length) (hlen ((e1.trans e2).trans (Ex.new hp)) rfl) (by omega)).go fun p2 xs2 H4 hp2 e4 h2 hx2 => ⟨.list (ms.map PyData.int), .list ((rgI cs.length).map PyData.int), dp_of (.lst (e4 _ _ upd_same) (fun z => z) (DtAll.ints ms)) (PySem.W.shaped_ints ms), dp_of (.lst h2 (fun z => z) hx2) (PySem.W.shaped_ints _), PySem.W.shaped_ints ms, PySem.W.shaped_ints _, _, rfl, by
        rw [eqvL_ints]
        have e : (!decide (ms = rgI cs.length)) = b := by
          cases hbb : b with
          | false =>
            rw [hbb] at hb
            rw [sorted_range ms _ (pm.trans (hb.mp rfl)) st]
            simp
          | true =>
            rw [hbb] at hb
            have : ms ≠ rgI cs.length := fun h => by
              have := hb.mpr (pm.symm.trans (by rw [h]))
              cases this
            simp [this]
        rw [e]
        exact q H4 ((Ex.new hp).trans e4)⟩⟩
    refine q_when (b := b) srt (fun h H2 e2 => sd_ret (d := .bool (orderIn cs (tupI ns))) (evd_is ed_bl ?_) fun v H3 e => k v H3 ((e1.trans e2).trans e)) fun h H2 e2 => ?_
    · congr 1
      symm
      rw [← Bool.not_eq_true, iff]
      intro o
      have := hb.mpr o.1
      rw [h] at this
      cases this
    have pm := hb.mp h
    have callsat : ∀ i ∈ ns, ∃ c, cs[i.toNat]? = some c ∧ atI (cs.map Cl.data) i = some c.data := fun i hi => by
      have hr := hn i hi
      have e : cs[i.toNat]? = some (cs[i.toNat]'(by omega)) := by simp [show i.toNat < cs.length by omega]
      exact ⟨_, e, atI_of (j := i.toNat) (by omega) (by rw [List.getElem?_map, e]; rfl)⟩
    have hs2 := ex_t e2 hs
    refine ⟨_, rfl, a, _, rfl, hs2, for_it (WalkD.walk (WalkD.enumT hs2 (DtAll.ints ns))) (fun i σ' H' => (∃ o2 o3 o4, σ' = [some v, some (.ref a), o2, o3, o4]) ∧ Ex H2 H' ∧ (ns.take i).Pairwise (NB cs)) ⟨⟨_, _, _, rfl⟩, Ex.refl _, .nil⟩ (fun i σ H _ q => q.2.1) (fun i x σ' H3 H4 hi q y => ?_) fun σ' H3 q => ?_⟩
    · obtain ⟨⟨o2, o3, o4, rfl⟩, e3, pw⟩ := q
      obtain ⟨d, hdi, e4, hxd⟩ := y
      obtain ⟨d', hd', rfl⟩ := enumD_at hdi
      rw [List.getElem?_map, Option.map_eq_some_iff] at hd'
      obtain ⟨n, hni, rfl⟩ := hd'
      refine unp2_go hxd fun v1 v2 h1 h2 => ?_
      obtain rfl := h1.toInt
      obtain rfl := h2.toInt
      have e24 := e3.trans e4
      have hv4 := hv.ex ((e1.trans e2).trans e24)
      have hu4 : Dt K No H4 (.ref a) (.tuple (ns.map PyData.int)) := .tup (ex_t e24 hs2) (DtAll.ints ns)
      obtain ⟨c, hc, hca⟩ := callsat n (List.mem_of_getElem? hni)
      refine s_when (b := (ns.take i).any fun far => beforeN cs n.toNat far.toNat) (et_is (td_test (K := K) (ed_neL (ns := (((ns.take i).map PyData.int).filter fun d => beforeN cs n.toNat (toI d).toNat).map fun _ => (1 : Int)) (ms := []) (EvN.d (evn_is (evn_lcT (K := K) (ds := (ns.take i).map PyData.int) (fun d => beforeN cs n.toNat (toI d).toNat) (fun _ => .int 1) (evd_is (sl_to (k := i) (evd_var rfl hu4) (evd_var (d := .int (i : Int)) rfl (.int _))) (by rw [List.map_take])) (by rw [List.length_map, List.length_take]; omega) fun d hd x H5 e5 hx => ?_) (fm_ones _ _))) (evd_lst (ds := []) ead_nil (by show 0 ≤ 100000; decide)))) ?_) (fun hb2 H5 e5 => ?_) fun hb2 H5 e5 => ?_
      · obtain ⟨m, hm, rfl⟩ := List.mem_map.mp hd
        obtain ⟨c2, hc2, hca2⟩ := callsat m (List.mem_of_mem_take hm)
        refine tk_name (td_test (evd_is (ed_b0 (g := fun i j => decide (i < j)) (ed_ixT (ds := c.items) (ed_ixT (evd_var rfl (hv4.ex e5)) (evd_var (d := .int n) rfl (.int _)) hca) ed_int (data_e c)) (ed_ixT (ds := c2.items) (ed_ixT (evd_var rfl (hv4.ex e5)) (evd_var rfl hx) hca2) ed_int (data_b c2))) ?_)) (fun _ => ed_int) fun _ => rfl
        rw [← before_of hc hc2]
        rfl
      · rw [List.filter_map, List.map_map, Bool.eq_iff_iff, List.any_eq_true]
        simp only [Bool.not_eq_true', decide_eq_false_iff_not, List.map_eq_nil_iff, List.filter_eq_nil_iff]
        constructor
        · intro h
          exact Classical.byContradiction fun hc => h fun x hx hb => hc ⟨x, hx, hb⟩
        · rintro ⟨x, hx, hb⟩ h
          exact h x hx hb
      · refine sd_ret (d := .bool (orderIn cs (tupI ns))) (evd_is ed_bl ?_) fun v H6 e => k v H6 ((((e1.trans e2).trans e24).trans e5).trans e)
        congr 1
        symm
        rw [← Bool.not_eq_true, iff]
        intro o
        obtain ⟨far, hf, hbf⟩ := List.any_eq_true.mp hb2
        have p2 : (ns.take (i + 1)).Pairwise (NB cs) := o.2.sublist (List.take_sublist _ _)
        rw [take_snoc hni, List.pairwise_append] at p2
        have := p2.2.2 far hf n (List.mem_singleton.mpr rfl)
        unfold NB at this
        rw [this] at hbf
        cases hbf
      · refine ⟨⟨_, _, _, rfl⟩, e24.trans e5, ?_⟩
        rw [take_snoc hni, List.pairwise_append]
        refine ⟨pw, List.pairwise_singleton _ _, fun a ha b hb => ?_⟩
        obtain rfl := List.mem_singleton.mp hb
        have := List.any_eq_false.mp hb2 a ha
        unfold NB
        simpa using this
    · obtain ⟨⟨o2, o3, o4, rfl⟩, e3, pw⟩ := q
      rw [enumD_len, List.length_map, List.take_length] at pw
      dsimp only
      refine sd_ret (K := K) (d := .bool (orderIn cs (tupI ns))) (evd_is ed_bl ?_) fun v H6 e => k v H6 (((e1.trans e2).trans e3).trans e)
      rw [iff.mpr ⟨pm, pw⟩]
end
end SB
end

section
set_option Elab.async false
set_option linter.all false
set_option maxRecDepth 100000
set_option maxHeartbeats 2000000
set_option autoImplicit false
/-! SbL12: set(t); is it a lot, by the law. -/
namespace SB
open PySem PySem.Spec PyProof.Rows L2 Evl
abbrev s__law_is_lot : Stmt := topS 65
abbrev N__law_is_lot : List Str := ["_law_many", "_law_thing", "_law_one"]
theorem sc__law_is_lot : FnScope N__law_is_lot ["_law_many", "_law_thing"] (C8.fnScope s__law_is_lot) := C8.fnScope_by (by decide +kernel)
local macro_rules | `(tactic| walk_at "sd") => `(tactic| first | with_reducible rfl | assumption | exact SeqD.t | exact SeqD.l | rfl | omega)
local macro_rules | `(tactic| walk_at "dt") => `(tactic| first | assumption | exact Dt.int _ | exact Dt.bl _ | exact Dt.str _ | exact Dt.non | exact Dt.ex (by assumption) (by assumption))
local macro_rules | `(tactic| walk_at "ev") => `(tactic| first
  | assumption
  | with_reducible apply ed_int
  | with_reducible apply ed_str
  | with_reducible apply ed_bl
  | with_reducible apply ed_non
  | with_reducible apply ead_nil
  | with_reducible exact et_yes
  | with_reducible exact eo_none
  | exact evd_var rfl (by walk_at "dt")
  | ((with_reducible apply td_test); walk_at "ev")
  | ((with_reducible apply td_B); walk_at "ev")
  | ((with_reducible apply et_not); walk_at "ev")
  | ((with_reducible apply et_and); walk_at "ev"; intro _; walk_at "ev")
  | ((with_reducible apply et_or); walk_at "ev"; intro _; walk_at "ev")
  | ((with_reducible apply ead_cons); walk_at "ev"; walk_at "ev")
  | ((with_reducible apply eod_some); walk_at "ev")
  | ((with_reducible apply evd_tup); walk_at "ev"; first | decide | (focus (simp; done)) | omega)
  | ((with_reducible apply evd_lst); walk_at "ev"; first | decide | (focus (simp; done)) | omega)
  | ((with_reducible apply ed_not); walk_at "ev")
  | ((with_reducible apply ed_and); walk_at "ev"; intro _; walk_at "ev")
  | ((with_reducible apply ed_or); walk_at "ev"; intro _; walk_at "ev")
  | ((with_reducible apply ed_i0); walk_at "ev"; walk_at "ev")
  | ((with_reducible apply ed_b0); walk_at "ev"; walk_at "ev")
  | ((with_reducible apply ed_eqI); walk_at "ev"; walk_at "ev")
  | ((with_reducible apply ed_eqS); walk_at "ev"; walk_at "ev")
  | ((with_reducible apply ed_eqB); walk_at "ev"; walk_at "ev")
  | ((with_reducible apply ed_neI); walk_at "ev"; walk_at "ev")
  | ((with_reducible apply ed_neS); walk_at "ev"; walk_at "ev")
  | ((with_reducible apply ed_neB); walk_at "ev"; walk_at "ev")
  | ((with_reducible apply ed_isN); walk_at "ev"; walk_at "ev")
  | ((with_reducible apply ed_notN); walk_at "ev"; walk_at "ev")
  | ((with_reducible apply ed_chain); walk_at "ev"; walk_at "ev"; walk_at "ev")
  | ((with_reducible apply ed_ixT); walk_at "ev"; walk_at "ev"; walk_at "sd")
  | ((with_reducible apply ed_ixL); walk_at "ev"; walk_at "ev"; walk_at "sd")
  | ((with_reducible apply ed_isi); walk_at "ev"; (first | exact kit_int _ | exact kit_bool _ | exact kit_tuple _ | exact kit_str _))
  | ((with_reducible apply ed_len); walk_at "ev"; walk_at "sd")
  | ((with_reducible apply ed_call); walk_at "ev"; (first | assumption | exact ⟨_, rfl, rfl⟩ | exact ⟨_, _, rfl, rfl⟩ | exact ⟨_, _, _, rfl, rfl⟩); exact rfl)
  | ((with_reducible apply ed_max2); walk_at "ev"; walk_at "ev")
  | ((with_reducible apply ed_min2); walk_at "ev"; walk_at "ev")
  | ((with_reducible apply ed_list); walk_at "ev"; walk_at "sd")
  | ((with_reducible apply ed_tuple); walk_at "ev"; walk_at "sd")
  | ((with_reducible apply ed_neg); walk_at "ev"))

section
variable {X : Cx}
/-- set(t), t a tuple of ints -/
def rSetTI (K : PySem.W.Frag) (w : World) : List V → Hp → VK → Prop := fun vs H Q => ∃ (p : Addr) (ns : List Int), vs = [V.ref p] ∧ SqT K H p (ns.map V.int) ∧ ns.length ≤ 1000 ∧ ∀ (a : Addr) (n : Nat), n ≤ ns.length → H a = none → Q (.ref a) (upd H a (SetO w a (fun j => decide (j ∈ ns)) n))
theorem cr_setTI (hc : X.calm = true) : CallR X (.type "set") (rSetTI X.K X.w) := by
  intro pins s σ H vs us Q I r h
  obtain ⟨p, ns, rfl, hq, hl, q⟩ := h
  rw [Vals.ref1 r]
  obtain ⟨its, rv, pt, hz⟩ := I.tuple hq
  have hi : IntsAre its.toArray.toList ns := ints_of_vals rv
  refine call_set_tupI ns (I.ok.hd hc) (show s.heap.IsTuple p its.toArray from pt) hi (by unfold scanBound; omega) fun h' tk c R1 hcn k => ?_
  exact ⟨.ref s.heap.objs.size, _, I.laid (t' := tk) k (Nat.le_refl _) (setO_new R1), rfl, q _ c hcn (I.hok.fresh (Nat.le_refl _))⟩
end
/-- strictly up -/
theorem anyGe_iff : ∀ ns : List Int, anyGe ns = false ↔ ns.Pairwise (· < ·)
  | [] => by simp [anyGe]
  | [x] => by simp [anyGe]
  | x :: y :: r => by
    have ih := anyGe_iff (y :: r)
    have e : anyGe (x :: y :: r) = (decide (y ≤ x) || anyGe (y :: r)) := rfl
    rw [e, Bool.or_eq_false_iff, ih, decide_eq_false_iff_not, List.pairwise_cons (l := y :: r)]
    constructor
    · rintro ⟨h1, h2⟩
      refine ⟨fun z hz => ?_, h2⟩
      rcases List.mem_cons.mp hz with rfl | hz
      · omega
      · have := (List.pairwise_cons.mp h2).1 z hz
        omega
    · rintro ⟨h1, h2⟩
      have := h1 y List.mem_cons_self
      exact ⟨by omega, h2⟩
theorem up_eq {ms ns : List Int} (h1 : ms.Pairwise (· < ·)) (h2 : ∀ k, k ∈ ms ↔ k ∈ ns) : ns = ms ↔ ns.Pairwise (· < ·) := by
  constructor
  · intro e
    rw [e]
    exact h1
  · intro h
    have nd : ∀ {l : List Int}, l.Pairwise (· < ·) → l.Nodup := fun h => h.imp fun {a b} (q : a < b) e => by omega
    have p : ns.Perm ms := (List.perm_ext_iff_of_nodup (nd h) (nd h1)).mpr fun a => (h2 a).symm
    exact List.Perm.eq_of_pairwise (le := fun a b : Int => a < b) (fun a b _ _ q1 q2 => absurd q1 (by omega)) h h1 p
section
variable {P : Program} {w : World} {K : PySem.W.Frag} {mg : Str → Option Value} {base : Heap} {A0 : Ad}
abbrev spIsLot (K : PySem.W.Frag) : Sp := spP K 2 fun ds d => ∃ (n : Nat) (x : PyData), (itemsOf x).length ≤ 60 ∧ ds = [.int (n : Int), x] ∧ d = .bool (lotIn n x)
theorem c__law_is_lot (T : Tx A0 K w mg) : C8.Cal P w K mg base 2 "_law_is_lot" (spIsLot K) [] := by
  have c__law_is_whole := c__law_is_whole (P := P) (base := base) T
  refine cal_of T.d__law_is_lot sc__law_is_lot (fun vs H Q E h => h.1) (fun f cdv A outer s H vs Q E hr h => ?_)
  obtain ⟨hl, ds, d, hd, ⟨n, x, hx, rfl, rfl⟩, k⟩ := h
  refine ⟨_, (pss_cons (ps_if (PW.pt (pw_or (pt_not (pt_val (pe_callB call_isi (by rfl) T.isinstance (by decide +kernel) (pa_cons (pv 1) (pa_cons (pe_bltn (v := .ty "tuple") (by rfl) T.tuple PyProof.Rows.boot_tuple rfl) pa_nil))))) (pw_or1 (pt_cmpR (op_neE (hu65 hr)) (pe_lc (own := [("_law_one", 2)]) (by rfl) sc__law_is_lot.nd (pi_tup (pv 1)) (blkOk_by (N := N__law_is_lot) (sc := (C8.fnScope s__law_is_lot)) (by decide +kernel)) (fun _ _ _ _ _ => (pg_name (i := 2) sc__law_is_lot.nd rfl (by first | exact Or.inl rfl | exact Or.inr rfl))) (fun _ _ _ _ _ => (pts_one (pt_not (pt_val (C8.pe_c c__law_is_whole hr (by decide) (by rfl) (pa_cons (pv 2) (pa_cons pe_int (pa_cons (pe_op op_sub (pv 0) pe_int) pa_nil)))))))) (fun _ _ _ _ _ => (pv 2))) (pe_lst pa_nil) (nomark _))))) (pss_one (ps_ret pe_bl)) pss_nil)
        (pss_one (ps_ret (pe_cmpR (op_eqD hr.units) (pe_callTy call_list_of (by rfl) T.list (by decide +kernel) (pa_cons (pv 1) pa_nil)) (pe_callB (cr_sortedSet rfl) (by rfl) T.sorted (by decide +kernel) (pa_cons (pe_callTy (cr_setTI rfl) (by rfl) T.set (by decide +kernel) (pa_cons (pv 1) pa_nil)) pa_nil)) (nomark _))))), ?_⟩
  simp only [cxK, cxK2, List.map_cons, List.map_nil]
  obtain ⟨v, u, rfl, hv, hu⟩ := hd.two
  obtain rfl := hv.toInt
  have tst : EvT (tOr (tNot (tB (tCB (rIsi K) (tCons (tVar 1) (tCons (tC (.ty "tuple")) tNil)))))
      (tTest (tOp (rNeE K) (tLc (iTup K (tVar 1)) (gName 2) (tNot (tB (tCall (spWhole K) [] C8.E0 (tCons (tVar 2) (tCons (tC (.int 0)) (tCons (tOp (rI0 fun i j => .int (i - j)) (tVar 0) (tC (.int 1))) tNil)))))) (tVar 2) [2]) (tLst tNil)))) (L2.start N__law_is_lot [.int (n : Int), u]) H (!areNums x n) := by
    by_cases ht : isTup x = true
    · obtain ⟨xs, rfl⟩ : ∃ xs, x = .tuple xs := by cases x <;> first | exact ⟨_, rfl⟩ | cases ht
      have hx : xs.length ≤ 60 := hx
      refine et_is (et_or (et_not (td_B (ed_isi (evd_var rfl hu) (kit_tuple _)))) fun _ => td_test (ed_neE (EvN.d (lcT_fil (K := K) (fun d => !isWh 0 ((n : Int) - 1) d) (evd_var rfl hu) (by omega) (show 2 < 3 by decide) fun d hd y H1 e1 hy => ?_)) (evd_lst (ds := []) ead_nil (by show 0 ≤ 100000; decide)))) ?_
      · exact et_not (td_B (ed_call (ead_cons (evd_var rfl hy) (ead_cons ed_int (ead_cons (ed_i0 (g := fun i j => i - j) (evd_var (d := .int (n : Int)) rfl (.int _)) ed_int) ead_nil))) ⟨d, 0, _, rfl, rfl⟩ rfl))
      · show (!true || !(xs.filter fun d => !isWh 0 ((n : Int) - 1) d).isEmpty) = !(xs.all fun d => isInt d && (decide (0 ≤ toI d) && decide (toI d < (n : Int))))
        have e : (fun d => isInt d && (decide (0 ≤ toI d) && decide (toI d < (n : Int)))) = isWh 0 ((n : Int) - 1) := by
          funext d
          unfold isWh
          congr 2
          rw [decide_eq_decide]
          omega
        rw [e]
        show (!(xs.filter fun d => !isWh 0 ((n : Int) - 1) d).isEmpty) = _
        congr 1
        rw [Bool.eq_iff_iff, List.isEmpty_iff, List.filter_eq_nil_iff, List.all_eq_true]
        simp
    · refine et_is (et_orT (et_is (et_not (td_B (ed_isi (evd_var rfl hu) (kit_tuple _)))) ?_)) ?_
      · cases x <;> first | rfl | exact absurd rfl ht
      · cases x <;> first | rfl | exact absurd rfl ht
  cases hA : areNums x n with
  | false =>
    refine q_hit tst (by rw [hA]; rfl) fun H1 e1 => sd_ret (d := .bool (lotIn n x)) (evd_is ed_bl ?_) fun v H2 e => k v H2 (e1.trans e)
    unfold lotIn
    rw [hA]
    rfl
  | true =>
    refine q_skip tst (by rw [hA]; rfl) fun H1 e1 => ?_
    obtain ⟨ns, rfl, hn, ens⟩ := areNums_ints hA
    have hx : ns.length ≤ 60 := by
      have : (ns.map PyData.int).length ≤ 60 := hx
      rwa [List.length_map] at this
    have hu1 := hu.ex e1
    obtain ⟨a, xs, rfl, hs, hd⟩ := hu1.toTup
    obtain rfl := hd.toInts
    refine ret_go (op_go ⟨_, rfl, a, _, rfl, .inr hs, fun pl hpl => ?_⟩)
    have hs2 := ex_t (Ex.new (o := .lst (ns.map V.int)) hpl) hs
    refine ⟨_, rfl, a, ns, rfl, hs2, by omega, fun ps m hm hps => ?_⟩
    refine ⟨ps, _, m, rfl, upd_same, by omega, fun ms pm up hmem hlen hpm => ?_⟩
    have hl3 : upd (upd (upd H1 pl (.lst (ns.map V.int))) ps (SetO w ps (fun j => decide (j ∈ ns)) m)) pm (.lst (ms.map V.int)) pl = some (.lst (ns.map V.int)) := Ex.new hpm _ _ (Ex.new hps _ _ upd_same)
    refine ⟨.list (ns.map PyData.int), .list (ms.map PyData.int), dp_of (.lst hl3 (fun z => z) (DtAll.ints ns)) (PySem.W.shaped_ints ns), dp_of (.lst upd_same (fun z => z) (DtAll.ints ms)) (PySem.W.shaped_ints ms), PySem.W.shaped_ints ns, PySem.W.shaped_ints ms, ?_⟩
    refine k _ _ (e1.trans (((Ex.new hpl).trans (Ex.new hps)).trans (Ex.new hpm))) ?_
    rw [eqvL_ints]
    have e : decide (ns = ms) = lotIn n (.tuple (ns.map PyData.int)) := by
      unfold lotIn
      rw [hA, ens, Bool.true_and, Bool.eq_iff_iff, decide_eq_true_iff, Bool.not_eq_true', anyGe_iff]
      exact up_eq up fun k => by rw [hmem k, decide_eq_true_iff]
    rw [e]
    exact .bl _
end
end SB
end

section
set_option Elab.async false
set_option linter.all false
set_option maxRecDepth 100000
set_option maxHeartbeats 2000000
set_option autoImplicit false
/-! SbL13: odd things. -/
namespace SB
open PySem PySem.Spec PyProof.Rows L2 Evl
abbrev s__law_twisted : Stmt := topS 61
abbrev N__law_twisted : List Str := ["_law_state", "_law_thing", "_law_at", "_law_way", "_law_odd"]
theorem sc__law_twisted : FnScope N__law_twisted ["_law_state", "_law_thing"] (C8.fnScope s__law_twisted) := C8.fnScope_by (by decide +kernel)
local macro_rules | `(tactic| walk_at "sd") => `(tactic| first | with_reducible rfl | assumption | exact SeqD.t | exact SeqD.l | rfl | omega)
local macro_rules | `(tactic| walk_at "dt") => `(tactic| first | assumption | exact Dt.int _ | exact Dt.bl _ | exact Dt.str _ | exact Dt.non | exact Dt.ex (by assumption) (by assumption))
local macro_rules | `(tactic| walk_at "ev") => `(tactic| first
  | assumption
  | with_reducible apply ed_int
  | with_reducible apply ed_str
  | with_reducible apply ed_bl
  | with_reducible apply ed_non
  | with_reducible apply ead_nil
  | with_reducible exact et_yes
  | with_reducible exact eo_none
  | exact evd_var rfl (by walk_at "dt")
  | ((with_reducible apply td_test); walk_at "ev")
  | ((with_reducible apply td_B); walk_at "ev")
  | ((with_reducible apply et_not); walk_at "ev")
  | ((with_reducible apply et_and); walk_at "ev"; intro _; walk_at "ev")
  | ((with_reducible apply et_or); walk_at "ev"; intro _; walk_at "ev")
  | ((with_reducible apply ead_cons); walk_at "ev"; walk_at "ev")
  | ((with_reducible apply eod_some); walk_at "ev")
  | ((with_reducible apply evd_tup); walk_at "ev"; first | decide | (focus (simp; done)) | omega)
  | ((with_reducible apply evd_lst); walk_at "ev"; first | decide | (focus (simp; done)) | omega)
  | ((with_reducible apply ed_not); walk_at "ev")
  | ((with_reducible apply ed_and); walk_at "ev"; intro _; walk_at "ev")
  | ((with_reducible apply ed_or); walk_at "ev"; intro _; walk_at "ev")
  | ((with_reducible apply ed_i0); walk_at "ev"; walk_at "ev")
  | ((with_reducible apply ed_b0); walk_at "ev"; walk_at "ev")
  | ((with_reducible apply ed_eqI); walk_at "ev"; walk_at "ev")
  | ((with_reducible apply ed_eqS); walk_at "ev"; walk_at "ev")
  | ((with_reducible apply ed_eqB); walk_at "ev"; walk_at "ev")
  | ((with_reducible apply ed_neI); walk_at "ev"; walk_at "ev")
  | ((with_reducible apply ed_neS); walk_at "ev"; walk_at "ev")
  | ((with_reducible apply ed_neB); walk_at "ev"; walk_at "ev")
  | ((with_reducible apply ed_isN); walk_at "ev"; walk_at "ev")
  | ((with_reducible apply ed_notN); walk_at "ev"; walk_at "ev")
  | ((with_reducible apply ed_chain); walk_at "ev"; walk_at "ev"; walk_at "ev")
  | ((with_reducible apply ed_ixT); walk_at "ev"; walk_at "ev"; walk_at "sd")
  | ((with_reducible apply ed_ixL); walk_at "ev"; walk_at "ev"; walk_at "sd")
  | ((with_reducible apply ed_isi); walk_at "ev"; (first | exact kit_int _ | exact kit_bool _ | exact kit_tuple _ | exact kit_str _))
  | ((with_reducible apply ed_len); walk_at "ev"; walk_at "sd")
  | ((with_reducible apply ed_call); walk_at "ev"; (first | assumption | exact ⟨_, rfl, rfl⟩ | exact ⟨_, _, rfl, rfl⟩ | exact ⟨_, _, _, rfl, rfl⟩); exact rfl)
  | ((with_reducible apply ed_max2); walk_at "ev"; walk_at "ev")
  | ((with_reducible apply ed_min2); walk_at "ev"; walk_at "ev")
  | ((with_reducible apply ed_list); walk_at "ev"; walk_at "sd")
  | ((with_reducible apply ed_tuple); walk_at "ev"; walk_at "sd")
  | ((with_reducible apply ed_neg); walk_at "ev"))

/-- what stood already -/
def Old (H : Hp) : Addr → Prop := fun a => H a ≠ none
def oddL : List PyData := [.none, .bool true, .bool false, .int (-1), .int 0, .int 1, .int 1000000, .int 1000001, .int (10 ^ 30), .str "cell", .str "put", .str "take", .str "has", .str "leave", .str "add", .str "", .tuple [], .list [], .dict [], .tuple [.str "room", .int 0], .tuple [.str "room", .int 10], .tuple [.str "room", .int 3], .tuple [.str "room", .bool true], .str "room", .tuple [.str "cell"]]
def Tw0 (d : PyData) : Prop := d ∈ oddL ∨ ∃ i, d = .int i ∧ -2 ≤ i ∧ i ≤ 1000
def Tw (d : PyData) : Prop := Tw0 d ∨ (∃ ms : List Int, d = tupI ms ∧ ms.length ≤ 21 ∧ ∀ i ∈ ms, 0 ≤ i ∧ i ≤ 100) ∨ ∃ (ms1 ms2 : List Int) (e : PyData), d = .tuple (ms1.map PyData.int ++ [e] ++ ms2.map PyData.int) ∧ ms1.length + 1 + ms2.length ≤ 21 ∧ Tw0 e ∧ ∀ i ∈ ms1 ++ ms2, 0 ≤ i ∧ i ≤ 100
section
variable {K : PySem.W.Frag} {σ : L2.St} {H H' H0 H1 : Hp} {ta tb tc te : TE} {t : TT} {d : PyData}
/-- what te gives, its parts that change are new -/
def EvF (K : PySem.W.Frag) (H0 : Hp) (te : TE) (σ : L2.St) (H : Hp) (d : PyData) : Prop := ∀ H1, Ex H H1 → ∀ Q : VK, (∀ v H2, Ex H1 H2 → Dt K (Old H0) H2 v d → Q v H2) → te σ H1 Q
def EvFA (K : PySem.W.Frag) (H0 : Hp) (ta : TA) (σ : L2.St) (H : Hp) (ds : List PyData) : Prop := ∀ H1, Ex H H1 → ∀ Q : List V → Hp → Prop, (∀ vs H2, Ex H1 H2 → DtAll K (Old H0) H2 vs ds → Q vs H2) → ta σ H1 Q
theorem ef_of (h : EvD K te σ H d) (n : noL d = true := by rfl) : EvF K H0 te σ H d := fun H1 e Q q => h H1 e Q fun v H2 e2 hv => q v H2 e2 (hv.any n)
theorem old_new {p : Addr} (e : Ex H0 H) (hp : H p = none) : ¬ Old H0 p := fun h => h (fresh_back e hp)
theorem ef_nil (e0 : Ex H0 H) : EvF K H0 (tLst tNil) σ H (.list []) := fun H1 e Q q => ⟨by show 0 ≤ sizeLine; exact Nat.zero_le _, fun p hp => q _ _ (Ex.new hp) (.lst upd_same (old_new (e0.trans e) hp) .nil)⟩
theorem ef_emp : EvF K H0 tDNewK σ H (.dict []) := fun H1 e Q q p hp => q _ _ (Ex.new hp) (.emp upd_same)
theorem efa_nil : EvFA K H0 tNil σ H [] := fun H1 e Q q => q [] H1 (Ex.refl H1) .nil
theorem efa_cons {ta : TA} {ds : List PyData} (h : EvF K H0 te σ H d) (h' : EvFA K H0 ta σ H ds) : EvFA K H0 (tCons te ta) σ H (d :: ds) := fun H1 e Q q => h H1 e _ fun v H2 e2 hv => h' H2 (e.trans e2) _ fun vs H3 e3 hvs => q _ H3 (e2.trans e3) (.cons (hv.ex e3) hvs)
/-- a new list of them -/
def EvFN (K : PySem.W.Frag) (H0 : Hp) (te : TE) (σ : L2.St) (H : Hp) (ds : List PyData) : Prop := ∀ H1, Ex H H1 → ∀ Q : VK, (∀ p xs H2, H1 p = none → Ex H1 H2 → H2 p = some (.lst xs) → DtAll K (Old H0) H2 xs ds → Q (.ref p) H2) → te σ H1 Q
theorem efn_lst {ta : TA} {ds : List PyData} (h : EvFA K H0 ta σ H ds) (hz : ds.length ≤ 100000) : EvFN K H0 (tLst ta) σ H ds := fun H1 e Q q =>
  h H1 e _ fun vs H2 e2 hvs => ⟨sz_of (by rw [hvs.len]; exact hz), fun p hp => q p _ _ (fresh_back e2 hp) (e2.trans (Ex.new hp)) upd_same (hvs.ex (Ex.new hp))⟩
theorem efn_cat {ds es : List PyData} {i : Nat} {p : Addr} {xs : List V} (hi : σ[i]? = some (some (.ref p))) (hp : H p = some (.lst xs)) (hd : DtAll K (Old H0) H xs ds) (hb : EvFN K H0 tb σ H es) (hz : ds.length + es.length ≤ 100000) : EvFN K H0 (tOp rCat (tVar i) tb) σ H (ds ++ es) := fun H1 e Q q =>
  ⟨_, hi, hb H1 e _ fun p2 ys H2 hp2 e2 h2 hy => ⟨p, p2, xs, ys, rfl, rfl, e2 _ _ (e _ _ hp), h2, sz_of (by rw [hd.len, hy.len]; exact hz), fun p3 hp3 => q p3 _ _ (fresh_back e2 hp3) (e2.trans (Ex.new hp3)) upd_same (((hd.ex (e.trans e2)).app hy).ex (Ex.new hp3))⟩⟩
end
section
variable {P : Program} {w : World} {K : PySem.W.Frag} {mg : Str → Option Value} {base : Heap} {A0 : Ad}
/-- one of a list, as new as the list -/
def spOfB (K : PySem.W.Frag) (z : Sp3) : Sp := fun vs H Q _ => ∃ x ds j B, vs = [.ref z.S, x] ∧ (∀ a, z.bar a → B a) ∧ Dt K B H x (.list ds) ∧ ds ≠ [] ∧ ds.length ≤ 1000 ∧ SW z H (j + 1) ∧ ∀ d ∈ ds, ∀ v H', Kp z.bar H H' → SW z H' j → Dt K B H' v d → Q v H'
theorem Kp.up {B B' : Addr → Prop} {H H' : Hp} (x : Kp B H H') (h : ∀ a, B a → B' a) : Kp B' H H' := ⟨fun b o n hb => x.k b o (fun z => n (h b z)) hb, x.t, x.e, x.z⟩
theorem c__law_ofB (T : Tx A0 K w mg) (z : Sp3) : C8.Cal P w K mg base 3 "_law_of" (spOfB K z) [] := by
  have c__law_draw := c__law_draw (P := P) (base := base) T z
  refine cal_of T.d__law_of sc__law_of (fun vs H Q E h => by obtain ⟨x, ds, j, B, rfl, _⟩ := h; rfl) (fun f cdv A outer s H vs Q E hr h => ?_)
  obtain ⟨x, ds, j, B, rfl, hB, hx, hne, hz, sw, k⟩ := h
  refine ⟨_, (pss_one (ps_ret (pe_ix ix_list (pv 1) (C8.pe_c c__law_draw hr (by decide) (by rfl) (pa_cons (pv 0) (pa_cons (pe_callB call_len_seq (by rfl) T.len (by decide +kernel) (pa_cons (pv 1) pa_nil)) pa_nil))) (fun _ _ => rfl)))), ?_⟩
  try simp only [cxK, cxK2, List.map_cons, List.map_nil]
  have hlen : 0 < ds.length := List.length_pos_iff.mpr hne
  refine ret_go (op_go ⟨x, rfl, draw_go (K := K) (j := j) (m := (ds.length : Int)) rfl sw (ed_len (evd_var rfl hx.no) .l) (by omega) (by omega) fun r H2 r0 r1 kp s2 => ?_⟩)
  obtain ⟨a, xs, rfl, ha, nb, hd⟩ := (hx.ke (kp.up hB)).toLm
  obtain ⟨v, d, hv, hd', hm, hvd⟩ := hd.memAt (i := r.toNat) (by omega)
  exact ⟨a, xs, r, v, rfl, rfl, SqL.of ha, atI_of (j := r.toNat) (by omega) hv, k d hm v H2 kp s2 hvd⟩
theorem SW.old {z : Sp3} {H : Hp} {j : Nat} (sw : SW z H j) {a : Addr} (h : z.bar a) : Old H a := fun hn => sw.nbar hn h
theorem Old.kp {z : Sp3} {H H' : Hp} {j : Nat} (sw : SW z H' j) (x : Kp z.bar H H') {a : Addr} (h : Old H a) : Old H' a := fun hn => h (by
  cases hh : H a with
  | none => rfl
  | some o =>
    have := x.k a o (sw.nbar hn) hh
    rw [hn] at this
    cases this)
theorem Dt.young {z : Sp3} {H H' H2 : Hp} {j : Nat} {v : V} {d : PyData} (sw : SW z H' j) (x : Kp z.bar H H') (h : Dt K (Old H') H2 v d) : Dt K (Old H) H2 v d := Dt.wk (fun a q => Old.kp sw x q) d v h
/-- behind the tuples: an int that is near, an odd thing -/
def twTail (K : PySem.W.Frag) (z : Sp3) : TS :=
  tSeq (tIfS (tAnd (tB (tCall (spWhole K) [] C8.E0 (tCons (tVar 1) (tCons (tC (.int 0)) (tCons (tOp (rI CPow fun i j => .int (i ^ j.toNat)) (tC (.int 10)) (tC (.int 9))) tNil)))))
      (tTest (tOp rEq (tCall (spDraw z) [] C8.E0 (tCons (tVar 0) (tCons (tC (.int 2)) tNil))) (tC (.int 0)))))
    (tRet (tOp (rI0 fun i j => .int (i + j)) (tVar 1) (tCall (spOfB K z) [] C8.E0 (tCons (tVar 0) (tCons (tLst (tCons (tC (.int 1)) (tCons (tUn (rU fun i => .int (-i)) (tC (.int 1))) (tCons (tC (.int 2)) tNil)))) tNil))))) tNext)
  (tSeq (tAsg (tLst (tCons (tC V.non) (tCons (tC (V.bl true)) (tCons (tC (V.bl false)) (tCons (tUn (rU fun i => V.int (-i)) (tC (V.int 1))) (tCons (tC (V.int 0)) (tCons (tC (V.int 1)) (tCons (tC (V.int 1000000)) (tCons (tC (V.int 1000001)) (tCons (tOp (rI CPow fun i j => V.int (i ^ j.toNat)) (tC (V.int 10)) (tC (V.int 30)))
      (tCons (tC (V.str "cell")) (tCons (tC (V.str "put")) (tCons (tC (V.str "take")) (tCons (tC (V.str "has")) (tCons (tC (V.str "leave")) (tCons (tC (V.str "add")) (tCons (tC (V.str "")) tNil))))))))))))))))) (gName 4))
    (tRet (tCall (spOfB K z) [] C8.E0 (tCons (tVar 0) (tCons (tOp rCat (tVar 4) (tLst (tCons (tTup tNil) (tCons (tLst tNil) (tCons tDNewK (tCons (tTup (tCons (tC (V.str "room")) (tCons (tC (V.int 0)) tNil))) (tCons (tTup (tCons (tC (V.str "room")) (tCons (tC (V.int 10)) tNil))) (tCons (tTup (tCons (tC (V.str "room")) (tCons (tC (V.int 3)) tNil)))
      (tCons (tTup (tCons (tC (V.str "room")) (tCons (tC (V.bl true)) tNil))) (tCons (tC (V.str "room")) (tCons (tTup (tCons (tC (V.str "cell")) tNil)) tNil))))))))))) tNil)))))
theorem tw_tail {z : Sp3} {H : Hp} {v : V} {x : PyData} {j : Nat} {o2 o3 o4 : Option V} {D : Ends} (hv : Dt K No H v x) (hx : isInt x = true → 0 ≤ toI x ∧ toI x ≤ 100) (sw : SW z H (j + 2)) (k : ∀ u H' d, Kp z.bar H H' → SW z H' j → Tw0 d → Dt K (Old H) H' u d → D.rt u H') : twTail K z D [some (.ref z.S), some v, o2, o3, o4] H := by
  have odd : ∀ H1, Kp z.bar H H1 → SW z H1 (j + 1) → (tSeq (tAsg (tLst (tCons (tC V.non) (tCons (tC (V.bl true)) (tCons (tC (V.bl false)) (tCons (tUn (rU fun i => V.int (-i)) (tC (V.int 1))) (tCons (tC (V.int 0)) (tCons (tC (V.int 1)) (tCons (tC (V.int 1000000)) (tCons (tC (V.int 1000001)) (tCons (tOp (rI CPow fun i j => V.int (i ^ j.toNat)) (tC (V.int 10)) (tC (V.int 30)))
      (tCons (tC (V.str "cell")) (tCons (tC (V.str "put")) (tCons (tC (V.str "take")) (tCons (tC (V.str "has")) (tCons (tC (V.str "leave")) (tCons (tC (V.str "add")) (tCons (tC (V.str "")) tNil))))))))))))))))) (gName 4))
    (tRet (tCall (spOfB K z) [] C8.E0 (tCons (tVar 0) (tCons (tOp rCat (tVar 4) (tLst (tCons (tTup tNil) (tCons (tLst tNil) (tCons tDNewK (tCons (tTup (tCons (tC (V.str "room")) (tCons (tC (V.int 0)) tNil))) (tCons (tTup (tCons (tC (V.str "room")) (tCons (tC (V.int 10)) tNil))) (tCons (tTup (tCons (tC (V.str "room")) (tCons (tC (V.int 3)) tNil)))
      (tCons (tTup (tCons (tC (V.str "room")) (tCons (tC (V.bl true)) tNil))) (tCons (tC (V.str "room")) (tCons (tTup (tCons (tC (V.str "cell")) tNil)) tNil))))))))))) tNil))))) D [some (.ref z.S), some v, o2, o3, o4] H1 := fun H1 kp1 sw1 => by
    refine asg_go (efn_lst (K := K) (H0 := H1) (ds := oddL.take 16) (efa_cons (ef_of ed_non) (efa_cons (ef_of ed_bl) (efa_cons (ef_of ed_bl) (efa_cons (ef_of (ed_neg ed_int)) (efa_cons (ef_of ed_int) (efa_cons (ef_of ed_int) (efa_cons (ef_of ed_int) (efa_cons (ef_of ed_int) (efa_cons (ef_of (ed_i (C := CPow) (g := fun i j => i ^ j.toNat) ed_int ed_int (by unfold CPow; decide)))
      (efa_cons (ef_of ed_str) (efa_cons (ef_of ed_str) (efa_cons (ef_of ed_str) (efa_cons (ef_of ed_str) (efa_cons (ef_of ed_str) (efa_cons (ef_of ed_str) (efa_cons (ef_of ed_str) efa_nil)))))))))))))))) (by decide) H1 (Ex.refl H1) _ fun p4 xs H2 hp4 e2 h4 hxs => ?_)
    refine ret_go ⟨_, rfl, ?_⟩
    refine efn_cat (K := K) (i := 4) (H0 := H1) (ds := oddL.take 16) (es := oddL.drop 16) rfl h4 hxs (efn_lst (efa_cons (ef_of (evd_tup (ds := []) ead_nil (by decide))) (efa_cons (ef_nil e2) (efa_cons ef_emp (efa_cons (ef_of (evd_tup (ead_cons ed_str (ead_cons ed_int ead_nil)) (by decide))) (efa_cons (ef_of (evd_tup (ead_cons ed_str (ead_cons ed_int ead_nil)) (by decide))) (efa_cons (ef_of (evd_tup (ead_cons ed_str (ead_cons ed_int ead_nil)) (by decide)))
      (efa_cons (ef_of (evd_tup (ead_cons ed_str (ead_cons ed_bl ead_nil)) (by decide))) (efa_cons (ef_of ed_str) (efa_cons (ef_of (evd_tup (ead_cons ed_str ead_nil) (by decide))) efa_nil))))))))) (by decide)) (by decide) H2 (Ex.refl H2) _ fun p5 ys H3 hp5 e3 h5 hys => ?_
    have sw3 := (sw1.mono e2).mono e3
    refine ⟨.ref p5, oddL, j, Old H1, rfl, fun a h => sw1.old h, .lst h5 (old_new e2 hp5) hys, by decide, by decide, sw3, fun d hd u H4 kp4 sw4 hu => ?_⟩
    exact k u H4 d ((kp1.trans (Kp.of (e2.trans e3))).trans kp4) sw4 (.inl hd) (hu.young sw1 kp1)
  refine (td_B (K := K) (ed_call (ead_cons (evd_var rfl hv) (ead_cons ed_int (ead_cons (ed_i (C := CPow) (g := fun i j => i ^ j.toNat) ed_int ed_int (by unfold CPow; decide)) ead_nil))) ⟨x, 0, _, rfl, rfl⟩ rfl)) H (Ex.refl H) _ fun H1 e1 => ?_
  by_cases hw : isWh 0 (10 ^ (9 : Int).toNat) x = true
  · rw [if_pos hw]
    refine drawq_go K (j := j + 1) rfl (sw.mono e1) (by decide) (by decide) fun b H2 kp2 sw2 => ?_
    have kpa : Kp z.bar H H2 := (Kp.of e1).trans kp2
    cases b with
    | false => exact odd H2 kpa sw2
    | true =>
      have hi : isInt x = true := by
        unfold isWh at hw
        rw [Bool.and_eq_true] at hw
        exact hw.1
      have hb := hx hi
      have ex := isInt_is hi
      obtain ⟨i, rfl⟩ : ∃ i, x = .int i := ⟨_, ex⟩
      obtain rfl := hv.toInt
      refine ret_go (op_go ⟨_, rfl, _, rfl, ?_⟩)
      refine efn_lst (K := K) (H0 := H2) (ds := [.int 1, .int (-1), .int 2]) (efa_cons (ef_of ed_int) (efa_cons (ef_of (ed_neg ed_int)) (efa_cons (ef_of ed_int) efa_nil))) (by decide) H2 (Ex.refl H2) _ fun p xs H3 hp e3 h3 hxs => ?_
      refine ⟨.ref p, [.int 1, .int (-1), .int 2], j, z.bar, rfl, fun a h => h, .lst h3 (sw2.nbar hp) (hxs.any rfl), by decide, by decide, sw2.mono e3, fun d hd u H4 kp4 sw4 hu => ?_⟩
      obtain ⟨r, rfl, hr⟩ : ∃ r, d = .int r ∧ -1 ≤ r ∧ r ≤ 2 := by
        simp only [List.mem_cons, List.not_mem_nil, or_false] at hd
        rcases hd with rfl | rfl | rfl <;> exact ⟨_, rfl, by decide, by decide⟩
      obtain rfl := hu.toInt
      have hb : 0 ≤ i ∧ i ≤ 100 := hb
      exact ⟨i, r, rfl, rfl, k _ H4 (.int (i + r)) ((kpa.trans (Kp.of e3)).trans kp4) sw4 (.inr ⟨_, rfl, by omega, by omega⟩) (.int _)⟩
  · have hw : isWh 0 (10 ^ (9 : Int).toNat) x = false := by simpa using hw
    rw [if_neg (by rw [hw]; decide)]
    exact odd H1 (Kp.of e1) ((sw.mono e1).le (by omega))
end
end SB
end

section
set_option Elab.async false
set_option linter.all false
set_option maxRecDepth 100000
set_option maxHeartbeats 2000000
set_option autoImplicit false
/-! SbL14: twisted orders, lots. -/
namespace SB
open PySem PySem.Spec PyProof.Rows L2 Evl
local macro_rules | `(tactic| walk_at "sd") => `(tactic| first | with_reducible rfl | assumption | exact SeqD.t | exact SeqD.l | rfl | omega)
local macro_rules | `(tactic| walk_at "dt") => `(tactic| first | assumption | exact Dt.int _ | exact Dt.bl _ | exact Dt.str _ | exact Dt.non | exact Dt.ex (by assumption) (by assumption))
local macro_rules | `(tactic| walk_at "ev") => `(tactic| first
  | assumption
  | with_reducible apply ed_int
  | with_reducible apply ed_str
  | with_reducible apply ed_bl
  | with_reducible apply ed_non
  | with_reducible apply ead_nil
  | with_reducible exact et_yes
  | with_reducible exact eo_none
  | exact evd_var rfl (by walk_at "dt")
  | ((with_reducible apply td_test); walk_at "ev")
  | ((with_reducible apply td_B); walk_at "ev")
  | ((with_reducible apply et_not); walk_at "ev")
  | ((with_reducible apply et_and); walk_at "ev"; intro _; walk_at "ev")
  | ((with_reducible apply et_or); walk_at "ev"; intro _; walk_at "ev")
  | ((with_reducible apply ead_cons); walk_at "ev"; walk_at "ev")
  | ((with_reducible apply eod_some); walk_at "ev")
  | ((with_reducible apply evd_tup); walk_at "ev"; first | decide | (focus (simp; done)) | omega)
  | ((with_reducible apply evd_lst); walk_at "ev"; first | decide | (focus (simp; done)) | omega)
  | ((with_reducible apply ed_not); walk_at "ev")
  | ((with_reducible apply ed_and); walk_at "ev"; intro _; walk_at "ev")
  | ((with_reducible apply ed_or); walk_at "ev"; intro _; walk_at "ev")
  | ((with_reducible apply ed_i0); walk_at "ev"; walk_at "ev")
  | ((with_reducible apply ed_b0); walk_at "ev"; walk_at "ev")
  | ((with_reducible apply ed_eqI); walk_at "ev"; walk_at "ev")
  | ((with_reducible apply ed_eqS); walk_at "ev"; walk_at "ev")
  | ((with_reducible apply ed_eqB); walk_at "ev"; walk_at "ev")
  | ((with_reducible apply ed_neI); walk_at "ev"; walk_at "ev")
  | ((with_reducible apply ed_neS); walk_at "ev"; walk_at "ev")
  | ((with_reducible apply ed_neB); walk_at "ev"; walk_at "ev")
  | ((with_reducible apply ed_isN); walk_at "ev"; walk_at "ev")
  | ((with_reducible apply ed_notN); walk_at "ev"; walk_at "ev")
  | ((with_reducible apply ed_chain); walk_at "ev"; walk_at "ev"; walk_at "ev")
  | ((with_reducible apply ed_ixT); walk_at "ev"; walk_at "ev"; walk_at "sd")
  | ((with_reducible apply ed_ixL); walk_at "ev"; walk_at "ev"; walk_at "sd")
  | ((with_reducible apply ed_isi); walk_at "ev"; (first | exact kit_int _ | exact kit_bool _ | exact kit_tuple _ | exact kit_str _))
  | ((with_reducible apply ed_len); walk_at "ev"; walk_at "sd")
  | ((with_reducible apply ed_call); walk_at "ev"; (first | assumption | exact ⟨_, rfl, rfl⟩ | exact ⟨_, _, rfl, rfl⟩ | exact ⟨_, _, _, rfl, rfl⟩); exact rfl)
  | ((with_reducible apply ed_max2); walk_at "ev"; walk_at "ev")
  | ((with_reducible apply ed_min2); walk_at "ev"; walk_at "ev")
  | ((with_reducible apply ed_list); walk_at "ev"; walk_at "sd")
  | ((with_reducible apply ed_tuple); walk_at "ev"; walk_at "sd")
  | ((with_reducible apply ed_neg); walk_at "ev"))

section
variable {K : PySem.W.Frag} {σ : L2.St} {H H' H0 H1 : Hp} {ta tb tc te : TE} {t : TT} {d : PyData}
theorem catA_dt {B : Addr → Prop} {x y : V} {ds es : List PyData} {Q : VK} (hx : Dt K B H x (.tuple ds)) (hy : Dt K B H y (.tuple es)) (hz : ds.length + es.length ≤ 100000) (q : ∀ u H', Ex H H' → Dt K B H' u (.tuple (ds ++ es)) → Q u H') : rCatA K x y H Q := by
  obtain ⟨a, xs, rfl, hs, hd⟩ := hx.toTup
  obtain ⟨b, ys, rfl, hs', he⟩ := hy.toTup
  refine ⟨a, b, xs, ys, rfl, rfl, hs, hs', sz_of (by rw [hd.len, he.len]; exact hz), fun z => q _ H (Ex.refl H) ?_, fun _ z => q _ H (Ex.refl H) ?_, fun _ _ p hp => q _ _ (Ex.new hp) (.tup (SqT.of upd_same) ((hd.app he).ex (Ex.new hp)))⟩
  · subst z
    cases hd
    exact .tup hs' he
  · subst z
    cases he
    rw [List.append_nil]
    exact .tup hs hd
/-- draw(m) > 0 -/
theorem drawp_go (K : PySem.W.Frag) {z : Sp3} {i j : Nat} {m : Int} {Q : Bool → Hp → Prop} (hS : σ[i]? = some (some (.ref z.S))) (sw : SW z H (j + 1)) (h0 : 0 < m) (h1 : m ≤ 1000000) (q : ∀ b H2, Kp z.bar H H2 → SW z H2 j → Q b H2) :
    tTest (tOp (rI0 fun i j => .bl (decide (j < i))) (tCall (spDraw z) [] C8.E0 (tCons (tVar i) (tCons (tC (.int m)) tNil))) (tC (.int 0))) σ H Q :=
  draw_go (K := K) (Q := fun x H1 => (rI0 fun i j => .bl (decide (j < i))) x (.int 0) H1 fun x H' => ∃ k, x = .bl k ∧ Q k H') hS sw ed_int h0 h1 fun r H2 r0 r1 kp s2 => ⟨_, _, rfl, rfl, _, rfl, q _ H2 kp s2⟩
theorem par2_go {i j : Nat} {ta : TA} {tz : TS} {D : Ends} (h : ta σ H fun vs H1 => ∃ u v, vs = [u, v] ∧ tz D ((σ.set i (some u)).set j (some v)) H1) : tSeq (tPar i j ta) tz D σ H := h
end
section
variable {P : Program} {w : World} {K : PySem.W.Frag} {mg : Str → Option Value} {base : Heap} {A0 : Ad}
def spNone : Sp := fun vs H Q _ => False
theorem c__law_twistedF (T : Tx A0 K w mg) : C8.Cal P w K mg base 1 "_law_twisted" spNone [] := by
  refine cal_of T.d__law_twisted sc__law_twisted (fun vs H Q E h => (False.elim h)) (fun f cdv A outer s H vs Q E hr h => (False.elim h))
def spTw0 (K : PySem.W.Frag) (z : Sp3) : Sp := fun vs H Q _ => ∃ i j, vs = [.ref z.S, .int i] ∧ 0 ≤ i ∧ i ≤ 100 ∧ SW z H (j + 2) ∧ ∀ u H' d, Kp z.bar H H' → SW z H' j → Tw0 d → Dt K (Old H) H' u d → Q u H'
theorem c__law_tw0 (T : Tx A0 K w mg) (z : Sp3) : C8.Cal P w K mg base 4 "_law_twisted" (spTw0 K z) [] := by
  have c__law_draw := c__law_draw (P := P) (base := base) T z
  have c__law_of := c__law_ofB (P := P) (base := base) T z
  have c__law_is_whole := c__law_is_whole (P := P) (base := base) T
  have c__law_twisted := c__law_twistedF (P := P) (base := base) T
  refine cal_of T.d__law_twisted sc__law_twisted (fun vs H Q E h => by obtain ⟨i, j, rfl, _⟩ := h; rfl) (fun f cdv A outer s H vs Q E hr h => ?_)
  obtain ⟨i, j, rfl, i0, i1, sw, k⟩ := h
  refine ⟨_, (pss_cons (ps_if (PW.pt (pw_and (pt_val (pe_callB call_isi (by rfl) T.isinstance (by decide +kernel) (pa_cons (pv 1) (pa_cons (pe_bltn (v := .ty "tuple") (by rfl) T.tuple PyProof.Rows.boot_tuple rfl) pa_nil)))) (pw_and (pt_cmpR (op_neD hr.units) (pv 1) (pe_tup pa_nil) (nomark _)) (pw_and1 (pt_cmpR op_gt (C8.pe_c c__law_draw hr (by decide) (by rfl) (pa_cons (pv 0) (pa_cons pe_int pa_nil))) pe_int (nomark _)))))) (pss_cons (ps_par (i := 2) (j := 3) (by rfl) sc__law_twisted.nd rfl rfl (by decide) rfl rfl (pa_cons (C8.pe_c c__law_draw hr (by decide) (by rfl) (pa_cons (pv 0) (pa_cons (pe_callB call_len_seq (by rfl) T.len (by decide +kernel) (pa_cons (pv 1) pa_nil)) pa_nil))) (pa_cons (C8.pe_c c__law_draw hr (by decide) (by rfl) (pa_cons (pv 0) (pa_cons pe_int pa_nil))) pa_nil)) (by rfl))
          (pss_cons (ps_if (pt_cmpR op_eq (pv 3) pe_int (nomark _)) (pss_one (ps_ret (pe_op op_catA (pe_slice sl_tupA (pv 1) po_none (po_some (pv 2))) (pe_slice sl_tupA (pv 1) (po_some (pe_op op_add (pv 2) pe_int)) po_none)))) pss_nil)
          (pss_cons (ps_if (pt_cmpR op_eq (pv 3) pe_int (nomark _)) (pss_one (ps_ret (pe_op op_catA (pe_op op_catA (pe_slice sl_tupA (pv 1) po_none (po_some (pv 2))) (pe_slice sl_tupA (pv 1) (po_some (pv 2)) (po_some (pe_op op_add (pv 2) pe_int)))) (pe_slice sl_tupA (pv 1) (po_some (pv 2)) po_none)))) pss_nil)
          (pss_cons (ps_if (pt_cmpR op_eq (pv 3) pe_int (nomark _)) (pss_one (ps_ret (pe_revT (pv 1)))) pss_nil)
          (pss_one (ps_ret (pe_op op_catA (pe_op op_catA (pe_slice sl_tupA (pv 1) po_none (po_some (pv 2))) (pe_tup (pa_cons (C8.pe_c c__law_twisted hr (by decide) (by rfl) (pa_cons (pv 0) (pa_cons (pe_ix ix_tup (pv 1) (pv 2) (fun _ _ => rfl)) pa_nil))) pa_nil))) (pe_slice sl_tupA (pv 1) (po_some (pe_op op_add (pv 2) pe_int)) po_none)))))))) pss_nil)
        (pss_cons (ps_if (PW.pt (pw_and (pt_val (C8.pe_c c__law_is_whole hr (by decide) (by rfl) (pa_cons (pv 1) (pa_cons pe_int (pa_cons (pe_op op_pow pe_int pe_int) pa_nil))))) (pw_and1 (pt_cmpR op_eq (C8.pe_c c__law_draw hr (by decide) (by rfl) (pa_cons (pv 0) (pa_cons pe_int pa_nil))) pe_int (nomark _))))) (pss_one (ps_ret (pe_op op_add (pv 1) (C8.pe_c c__law_of hr (by decide) (by rfl) (pa_cons (pv 0) (pa_cons (pe_lst (pa_cons pe_int (pa_cons (pe_un un_neg pe_int) (pa_cons pe_int pa_nil)))) pa_nil)))))) pss_nil)
        (pss_cons (ps_set (i := 4) sc__law_twisted.nd rfl (by first | exact Or.inl rfl | exact Or.inr rfl) (pe_lst (pa_cons pe_non (pa_cons pe_bl (pa_cons pe_bl (pa_cons (pe_un un_neg pe_int) (pa_cons pe_int (pa_cons pe_int (pa_cons pe_int (pa_cons pe_int (pa_cons (pe_op op_pow pe_int pe_int) (pa_cons pe_str (pa_cons pe_str (pa_cons pe_str (pa_cons pe_str (pa_cons pe_str (pa_cons pe_str (pa_cons pe_str pa_nil))))))))))))))))))
        (pss_one (ps_ret (C8.pe_c c__law_of hr (by decide) (by rfl) (pa_cons (pv 0) (pa_cons (pe_op op_cat (pv 4) (pe_lst (pa_cons (pe_tup pa_nil) (pa_cons (pe_lst pa_nil) (pa_cons pe_dnewK (pa_cons (pe_tup (pa_cons pe_str (pa_cons pe_int pa_nil))) (pa_cons (pe_tup (pa_cons pe_str (pa_cons pe_int pa_nil))) (pa_cons (pe_tup (pa_cons pe_str (pa_cons pe_int pa_nil))) (pa_cons (pe_tup (pa_cons pe_str (pa_cons pe_bl pa_nil))) (pa_cons pe_str (pa_cons (pe_tup (pa_cons pe_str pa_nil)) pa_nil))))))))))) pa_nil)))))))), ?_⟩
  try simp only [cxK, cxK2, List.map_cons, List.map_nil]
  have hv : Dt K No H (.int i) (.int i) := .int i
  refine q_skip (et_andF (et_is (td_B (ed_isi (evd_var rfl hv) (kit_tuple _))) rfl)) rfl fun H1 e1 => ?_
  exact tw_tail (x := .int i) (hv.ex e1) (fun _ => ⟨i0, i1⟩) (sw.mono e1) fun u H2 d kp2 sw2 hd hu => k u H2 d ((Kp.of e1).trans kp2) sw2 hd (hu.young (sw.mono e1) (Kp.of e1))
def spTwisted (K : PySem.W.Frag) (z : Sp3) : Sp := fun vs H Q _ => ∃ v ns j, vs = [.ref z.S, v] ∧ Dt K No H v (tupI ns) ∧ ns.length ≤ 20 ∧ (∀ i ∈ ns, 0 ≤ i ∧ i ≤ 100) ∧ SW z H (j + 5) ∧ ∀ u H' d, Kp z.bar H H' → SW z H' j → Tw d → Dt K (Old H) H' u d → Q u H'
theorem c__law_twisted (T : Tx A0 K w mg) (z : Sp3) : C8.Cal P w K mg base 5 "_law_twisted" (spTwisted K z) [] := by
  have c__law_draw := c__law_draw (P := P) (base := base) T z
  have c__law_of := c__law_ofB (P := P) (base := base) T z
  have c__law_is_whole := c__law_is_whole (P := P) (base := base) T
  have c__law_twisted := c__law_tw0 (P := P) (base := base) T z
  refine cal_of T.d__law_twisted sc__law_twisted (fun vs H Q E h => by obtain ⟨i, ns, j, rfl, _⟩ := h; rfl) (fun f cdv A outer s H vs Q E hr h => ?_)
  obtain ⟨v, ns, j, rfl, hv, hl, hn, sw, k⟩ := h
  refine ⟨_, (pss_cons (ps_if (PW.pt (pw_and (pt_val (pe_callB call_isi (by rfl) T.isinstance (by decide +kernel) (pa_cons (pv 1) (pa_cons (pe_bltn (v := .ty "tuple") (by rfl) T.tuple PyProof.Rows.boot_tuple rfl) pa_nil)))) (pw_and (pt_cmpR (op_neD hr.units) (pv 1) (pe_tup pa_nil) (nomark _)) (pw_and1 (pt_cmpR op_gt (C8.pe_c c__law_draw hr (by decide) (by rfl) (pa_cons (pv 0) (pa_cons pe_int pa_nil))) pe_int (nomark _)))))) (pss_cons (ps_par (i := 2) (j := 3) (by rfl) sc__law_twisted.nd rfl rfl (by decide) rfl rfl (pa_cons (C8.pe_c c__law_draw hr (by decide) (by rfl) (pa_cons (pv 0) (pa_cons (pe_callB call_len_seq (by rfl) T.len (by decide +kernel) (pa_cons (pv 1) pa_nil)) pa_nil))) (pa_cons (C8.pe_c c__law_draw hr (by decide) (by rfl) (pa_cons (pv 0) (pa_cons pe_int pa_nil))) pa_nil)) (by rfl))
          (pss_cons (ps_if (pt_cmpR op_eq (pv 3) pe_int (nomark _)) (pss_one (ps_ret (pe_op op_catA (pe_slice sl_tupA (pv 1) po_none (po_some (pv 2))) (pe_slice sl_tupA (pv 1) (po_some (pe_op op_add (pv 2) pe_int)) po_none)))) pss_nil)
          (pss_cons (ps_if (pt_cmpR op_eq (pv 3) pe_int (nomark _)) (pss_one (ps_ret (pe_op op_catA (pe_op op_catA (pe_slice sl_tupA (pv 1) po_none (po_some (pv 2))) (pe_slice sl_tupA (pv 1) (po_some (pv 2)) (po_some (pe_op op_add (pv 2) pe_int)))) (pe_slice sl_tupA (pv 1) (po_some (pv 2)) po_none)))) pss_nil)
          (pss_cons (ps_if (pt_cmpR op_eq (pv 3) pe_int (nomark _)) (pss_one (ps_ret (pe_revT (pv 1)))) pss_nil)
          (pss_one (ps_ret (pe_op op_catA (pe_op op_catA (pe_slice sl_tupA (pv 1) po_none (po_some (pv 2))) (pe_tup (pa_cons (C8.pe_c c__law_twisted hr (by decide) (by rfl) (pa_cons (pv 0) (pa_cons (pe_ix ix_tup (pv 1) (pv 2) (fun _ _ => rfl)) pa_nil))) pa_nil))) (pe_slice sl_tupA (pv 1) (po_some (pe_op op_add (pv 2) pe_int)) po_none)))))))) pss_nil)
        (pss_cons (ps_if (PW.pt (pw_and (pt_val (C8.pe_c c__law_is_whole hr (by decide) (by rfl) (pa_cons (pv 1) (pa_cons pe_int (pa_cons (pe_op op_pow pe_int pe_int) pa_nil))))) (pw_and1 (pt_cmpR op_eq (C8.pe_c c__law_draw hr (by decide) (by rfl) (pa_cons (pv 0) (pa_cons pe_int pa_nil))) pe_int (nomark _))))) (pss_one (ps_ret (pe_op op_add (pv 1) (C8.pe_c c__law_of hr (by decide) (by rfl) (pa_cons (pv 0) (pa_cons (pe_lst (pa_cons pe_int (pa_cons (pe_un un_neg pe_int) (pa_cons pe_int pa_nil)))) pa_nil)))))) pss_nil)
        (pss_cons (ps_set (i := 4) sc__law_twisted.nd rfl (by first | exact Or.inl rfl | exact Or.inr rfl) (pe_lst (pa_cons pe_non (pa_cons pe_bl (pa_cons pe_bl (pa_cons (pe_un un_neg pe_int) (pa_cons pe_int (pa_cons pe_int (pa_cons pe_int (pa_cons pe_int (pa_cons (pe_op op_pow pe_int pe_int) (pa_cons pe_str (pa_cons pe_str (pa_cons pe_str (pa_cons pe_str (pa_cons pe_str (pa_cons pe_str (pa_cons pe_str pa_nil))))))))))))))))))
        (pss_one (ps_ret (C8.pe_c c__law_of hr (by decide) (by rfl) (pa_cons (pv 0) (pa_cons (pe_op op_cat (pv 4) (pe_lst (pa_cons (pe_tup pa_nil) (pa_cons (pe_lst pa_nil) (pa_cons pe_dnewK (pa_cons (pe_tup (pa_cons pe_str (pa_cons pe_int pa_nil))) (pa_cons (pe_tup (pa_cons pe_str (pa_cons pe_int pa_nil))) (pa_cons (pe_tup (pa_cons pe_str (pa_cons pe_int pa_nil))) (pa_cons (pe_tup (pa_cons pe_str (pa_cons pe_bl pa_nil))) (pa_cons pe_str (pa_cons (pe_tup (pa_cons pe_str pa_nil)) pa_nil))))))))))) pa_nil)))))))), ?_⟩
  try simp only [cxK, cxK2, List.map_cons, List.map_nil]
  have tl : ∀ H1, Kp z.bar H H1 → SW z H1 (j + 4) → Dt K No H1 v (tupI ns) → twTail K z { nx := fun x H' => Q V.non H', rt := Q } [some (.ref z.S), some v, none, none, none] H1 := fun H1 kp1 sw1 hv1 => tw_tail (j := j + 2) hv1 (fun h => by cases h) sw1 fun u H2 d kp2 sw2 hd hu => k u H2 d (kp1.trans kp2) (sw2.le (by omega)) (.inl hd) (hu.young sw1 kp1)
  refine (td_B (K := K) (ed_isi (evd_var rfl hv) (kit_tuple _))) H (Ex.refl H) _ fun H1 e1 => ?_
  rw [if_pos (show isTup (tupI ns) = true from rfl)]
  refine (td_test (K := K) (ed_neD (evd_var rfl (hv.ex e1)) (evd_tup (ds := []) ead_nil (by decide)) (shaped_tupI ns) (shaped_tupI []))) H1 (Ex.refl H1) _ fun H2 e2 => ?_
  rw [eqv_nil]
  have sw2 := (sw.mono e1).mono e2
  have hv2 := (hv.ex e1).ex e2
  have kp2 : Kp z.bar H H2 := Kp.of (e1.trans e2)
  by_cases hne : ns = []
  · subst hne
    rw [if_neg (by decide)]
    exact tl H2 kp2 (sw2.le (by omega)) hv2
  · rw [if_pos (by cases ns <;> first | exact absurd rfl hne | rfl)]
    have hpos : 0 < ns.length := List.length_pos_iff.mpr hne
    refine drawp_go K (j := j + 4) rfl sw2 (by decide) (by decide) fun b H3 kp3 sw3 => ?_
    have hv3 := kp_noL hv2 (noLs_ints ns) kp3
    have kpa := kp2.trans kp3
    cases b with
    | false => exact tl H3 kpa sw3 hv3
    | true =>
      have hlen : EvD K (tCB (fun xs H Q => ∃ p ys, xs = [V.ref p] ∧ (SqL K H p ys ∨ SqT K H p ys) ∧ Q (V.int ys.length) H) (tCons (tVar 1) tNil)) [some (.ref z.S), some v, none, none, none] H3 (.int (ns.length : Int)) := evd_is (ed_len (evd_var rfl hv3) .t) (by rw [List.length_map])
      refine par2_go ?_
      change tCall (spDraw z) [] C8.E0 _ _ _ _
      refine draw_go (K := K) (j := j + 3) rfl sw3 hlen (by omega) (by omega) fun r H4 r0 r1 kp4 sw4 => ?_
      obtain ⟨q, rfl⟩ : ∃ q : Nat, r = (q : Int) := ⟨r.toNat, by omega⟩
      change tCall (spDraw z) [] C8.E0 _ _ _ _
      refine draw_go (K := K) (j := j + 2) rfl sw4 ed_int (by decide) (by decide) fun y H5 y0 y1 kp5 sw5 => ⟨_, _, rfl, ?_⟩
      have hv5 := kp_noL (kp_noL hv3 (noLs_ints ns) kp4) (noLs_ints ns) kp5
      have hv5 : Dt K No H5 v (.tuple (ns.map PyData.int)) := hv5
      have kpb := (kpa.trans kp4).trans kp5
      have hq : q < ns.length := by omega
      have res : ∀ (ms : List Int) H6 u, Ex H5 H6 → ms.length ≤ 21 → (∀ i ∈ ms, i ∈ ns) → Dt K No H6 u (tupI ms) → Q u H6 := fun ms H6 u e6 hm hmem hu => k u H6 _ (kpb.trans (Kp.of e6)) ((sw5.mono e6).le (by omega)) (.inr (.inl ⟨ms, rfl, hm, fun i hi => hn i (hmem i hi)⟩)) (hu.any (noLs_ints ms))
      have tk : ∀ {H6}, Ex H5 H6 → EvD K (tSl (rSlA K) (tVar 1) tNoPart (tPart (tVar 2))) [some (.ref z.S), some v, some (.int (q : Int)), some (.int y), none] H6 (.tuple ((ns.map PyData.int).take q)) := fun e => sl_to (k := q) (evd_var rfl (hv5.ex e)) (evd_var (d := .int (q : Int)) rfl (.int _))
      have dr : ∀ {H6}, Dt K No H6 v (.tuple (ns.map PyData.int)) → EvD K (tSl (rSlA K) (tVar 1) (tPart (tOp (rI0 fun i j => V.int (i + j)) (tVar 2) (tC (V.int 1)))) tNoPart) [some (.ref z.S), some v, some (.int (q : Int)), some (.int y), none] H6 (.tuple ((ns.map PyData.int).drop (q + 1))) := fun hv => sl_from (k := q + 1) (evd_var rfl hv) (evd_is (ed_i0 (i := q) (j := 1) (g := fun i j => i + j) (evd_var (d := .int (q : Int)) rfl (.int _)) ed_int) rfl)
      refine q_when (b := decide (y = 0)) (td_test (K := K) (ed_eqI (evd_var (d := .int y) rfl (.int _)) ed_int)) (fun hb H6 e6 => ?_) fun hb H6 e6 => ?_
      · refine sd_ret (K := K) (d := tupI (ns.take q ++ ns.drop (q + 1))) (evd_is (evd_cat (tk e6) (dr (hv5.ex e6)) (by rw [List.length_take, List.length_drop, List.length_map]; omega)) (by rw [tupI, List.map_append, List.map_take, List.map_drop])) fun u H7 e7 hu => ?_
        exact res _ H7 u (e6.trans e7) (by rw [List.length_append, List.length_take, List.length_drop]; omega) (fun i hi => by
          rcases List.mem_append.mp hi with hi | hi
          · exact List.mem_of_mem_take hi
          · exact List.mem_of_mem_drop hi) hu
      refine q_when (b := decide (y = 1)) (td_test (K := K) (ed_eqI (evd_var (d := .int y) rfl (.int _)) ed_int)) (fun hb H7 e7 => ?_) fun hb H7 e7 => ?_
      · have e67 := e6.trans e7
        refine sd_ret (K := K) (d := tupI (ns.take q ++ (ns.drop q).take 1 ++ ns.drop q)) (evd_is (evd_cat (evd_cat (tk e67) (sl_mid (j := q) (k := q + 1) (evd_var rfl (hv5.ex e67)) (evd_var (d := .int (q : Int)) rfl (.int _)) (evd_is (ed_i0 (i := q) (j := 1) (g := fun i j => i + j) (evd_var (d := .int (q : Int)) rfl (.int _)) ed_int) rfl) (by rw [List.length_map]; omega)) (by rw [List.length_take, List.length_take, List.length_drop, List.length_map]; omega)) (sl_from (k := q) (evd_var rfl (hv5.ex e67)) (evd_var (d := .int (q : Int)) rfl (.int _))) (by simp only [List.length_append, List.length_take, List.length_drop, List.length_map]; omega)) (by
          rw [tupI, List.map_append, List.map_append, List.map_take, List.map_take, List.map_drop, show q + 1 - q = 1 by omega])) fun u H8 e8 hu => ?_
        exact res _ H8 u (e67.trans e8) (by simp only [List.length_append, List.length_take, List.length_drop]; omega) (fun i hi => by
          rcases List.mem_append.mp hi with hi | hi
          · rcases List.mem_append.mp hi with hi | hi
            · exact List.mem_of_mem_take hi
            · exact List.mem_of_mem_drop (List.mem_of_mem_take hi)
          · exact List.mem_of_mem_drop hi) hu
      refine q_when (b := decide (y = 2)) (td_test (K := K) (ed_eqI (evd_var (d := .int y) rfl (.int _)) ed_int)) (fun hb H8 e8 => ?_) fun hb H8 e8 => ?_
      · have e68 := (e6.trans e7).trans e8
        refine sd_ret (K := K) (d := tupI ns.reverse) (evd_is (ed_rev (evd_var rfl (hv5.ex e68))) (by rw [tupI, List.map_reverse])) fun u H9 e9 hu => ?_
        exact res _ H9 u (e68.trans e9) (by rw [List.length_reverse]; omega) (fun i hi => List.mem_reverse.mp hi) hu
      · have e68 := (e6.trans e7).trans e8
        have sw8 := sw5.mono e68
        have kp8 := kpb.trans (Kp.of e68)
        refine ret_go (op_go (op_go ((tk e68).go fun x H9 e9 hx => ?_)))
        obtain ⟨n, hnq⟩ : ∃ n, ns[q]? = some n := ⟨ns[q], by simp [hq]⟩
        have hm : n ∈ ns := List.mem_of_getElem? hnq
        have hb := hn n hm
        have hv9 := (hv5.ex e68).ex e9
        obtain ⟨a, xs, rfl, hs, hd⟩ := hv9.toTup
        obtain rfl := hd.toInts
        refine callA_go (ea_cons (ev_var rfl) (ea_cons (ev_op (ev_var rfl) (ev_var rfl) (rv_ixT hs (atI_of rfl (by rw [List.getElem?_map, hnq]; rfl)))) ea_nil)) fun H10 e10 => ?_
        refine ⟨n, j, rfl, hb.1, hb.2, (sw8.mono e9).mono e10, fun u H11 d kp11 sw11 hd0 hu => ⟨by show 1 ≤ sizeLine; decide, fun T hT => ?_⟩⟩
        have kpA : Kp z.bar H H10 := kp8.trans (Kp.of (e9.trans e10))
        have sw10 := (sw8.mono e9).mono e10
        have hx11 : Dt K (Old H) H11 x (.tuple ((ns.map PyData.int).take q)) := Dt.any (kp_noL (hx.ex e10) (by rw [← List.map_take]; exact noLs_ints _) kp11) (by rw [← List.map_take]; exact noLs_ints _)
        have hu11 : Dt K (Old H) (upd H11 T (.tup [u])) (.ref T) (.tuple [d]) := .tup (SqT.of upd_same) (.cons ((hu.young sw10 kpA).ex (Ex.new hT)) .nil)
        refine catA_dt (hx11.ex (Ex.new hT)) hu11 (by rw [List.length_take, List.length_map]; show _ + 1 ≤ _; omega) fun u2 H12 e12 hu2 => ?_
        have hv12 : Dt K No H12 (.ref a) (.tuple (ns.map PyData.int)) := (kp_noL (hv9.ex e10) (noLs_ints ns) kp11).ex ((Ex.new hT).trans e12)
        refine (dr hv12).go fun w H13 e13 hw => ?_
        refine catA_dt (hu2.ex e13) (hw.any (by rw [← List.map_drop]; exact noLs_ints _)) (by simp only [List.length_append, List.length_take, List.length_drop, List.length_map]; show _ + 1 + _ ≤ _; omega) fun u3 H14 e14 hu3 => ?_
        have eE := (((Ex.new (o := .tup [u]) hT).trans e12).trans e13).trans e14
        refine k u3 H14 _ ((kpA.trans kp11).trans (Kp.of eE)) (sw11.mono eE) (.inr (.inr ⟨ns.take q, ns.drop (q + 1), d, by rw [List.map_take, List.map_drop], by rw [List.length_take, List.length_drop]; omega, hd0, fun i hi => ?_⟩)) hu3
        rcases List.mem_append.mp hi with hi | hi
        · exact hn i (List.mem_of_mem_take hi)
        · exact hn i (List.mem_of_mem_drop hi)
end
end SB
end

section
set_option Elab.async false
set_option linter.all false
set_option maxRecDepth 100000
set_option maxHeartbeats 2000000
set_option autoImplicit false
/-! SbL15: are orders told well. -/
namespace SB
open PySem PySem.Spec PyProof.Rows L2 Evl
abbrev s__law_orders_good : Stmt := topS 63
abbrev N__law_orders_good : List Str := ["_law_state", "_law_history_here", "_law_row_here", "_law_some", "_law_k", "_law_one"]
theorem sc__law_orders_good : FnScope N__law_orders_good ["_law_state", "_law_history_here"] (C8.fnScope s__law_orders_good) := C8.fnScope_by (by decide +kernel)
local macro_rules | `(tactic| walk_at "sd") => `(tactic| first | with_reducible rfl | assumption | exact SeqD.t | exact SeqD.l | rfl | omega)
local macro_rules | `(tactic| walk_at "dt") => `(tactic| first | assumption | exact Dt.int _ | exact Dt.bl _ | exact Dt.str _ | exact Dt.non | exact Dt.ex (by assumption) (by assumption))
local macro_rules | `(tactic| walk_at "ev") => `(tactic| first
  | assumption
  | with_reducible apply ed_int
  | with_reducible apply ed_str
  | with_reducible apply ed_bl
  | with_reducible apply ed_non
  | with_reducible apply ead_nil
  | with_reducible exact et_yes
  | with_reducible exact eo_none
  | exact evd_var rfl (by walk_at "dt")
  | ((with_reducible apply td_test); walk_at "ev")
  | ((with_reducible apply td_B); walk_at "ev")
  | ((with_reducible apply et_not); walk_at "ev")
  | ((with_reducible apply et_and); walk_at "ev"; intro _; walk_at "ev")
  | ((with_reducible apply et_or); walk_at "ev"; intro _; walk_at "ev")
  | ((with_reducible apply ead_cons); walk_at "ev"; walk_at "ev")
  | ((with_reducible apply eod_some); walk_at "ev")
  | ((with_reducible apply evd_tup); walk_at "ev"; first | decide | (focus (simp; done)) | omega)
  | ((with_reducible apply evd_lst); walk_at "ev"; first | decide | (focus (simp; done)) | omega)
  | ((with_reducible apply ed_not); walk_at "ev")
  | ((with_reducible apply ed_and); walk_at "ev"; intro _; walk_at "ev")
  | ((with_reducible apply ed_or); walk_at "ev"; intro _; walk_at "ev")
  | ((with_reducible apply ed_i0); walk_at "ev"; walk_at "ev")
  | ((with_reducible apply ed_b0); walk_at "ev"; walk_at "ev")
  | ((with_reducible apply ed_eqI); walk_at "ev"; walk_at "ev")
  | ((with_reducible apply ed_eqS); walk_at "ev"; walk_at "ev")
  | ((with_reducible apply ed_eqB); walk_at "ev"; walk_at "ev")
  | ((with_reducible apply ed_neI); walk_at "ev"; walk_at "ev")
  | ((with_reducible apply ed_neS); walk_at "ev"; walk_at "ev")
  | ((with_reducible apply ed_neB); walk_at "ev"; walk_at "ev")
  | ((with_reducible apply ed_isN); walk_at "ev"; walk_at "ev")
  | ((with_reducible apply ed_notN); walk_at "ev"; walk_at "ev")
  | ((with_reducible apply ed_chain); walk_at "ev"; walk_at "ev"; walk_at "ev")
  | ((with_reducible apply ed_ixT); walk_at "ev"; walk_at "ev"; walk_at "sd")
  | ((with_reducible apply ed_ixL); walk_at "ev"; walk_at "ev"; walk_at "sd")
  | ((with_reducible apply ed_isi); walk_at "ev"; (first | exact kit_int _ | exact kit_bool _ | exact kit_tuple _ | exact kit_str _))
  | ((with_reducible apply ed_len); walk_at "ev"; walk_at "sd")
  | ((with_reducible apply ed_call); walk_at "ev"; (first | assumption | exact ⟨_, rfl, rfl⟩ | exact ⟨_, _, rfl, rfl⟩ | exact ⟨_, _, _, rfl, rfl⟩); exact rfl)
  | ((with_reducible apply ed_max2); walk_at "ev"; walk_at "ev")
  | ((with_reducible apply ed_min2); walk_at "ev"; walk_at "ev")
  | ((with_reducible apply ed_list); walk_at "ev"; walk_at "sd")
  | ((with_reducible apply ed_tuple); walk_at "ev"; walk_at "sd")
  | ((with_reducible apply ed_neg); walk_at "ev"))

section
variable {K : PySem.W.Frag} {B : Addr → Prop} {H : Hp}
mutual
theorem Dt.oldx {D : Addr} (hD : H D = none) : ∀ (d : PyData) (v : V), Dt K B H v d → Dt K (fun b => B b ∨ b = D) H v d
  | .none, _, h => by
    cases h
    exact .non
  | .bool b, _, h => by
    cases h
    exact .bl b
  | .int i, _, h => by
    cases h
    exact .int i
  | .str s, _, h => by
    cases h
    exact .str s
  | .list ds, _, h => by
    cases h with
    | lst h1 h2 h3 =>
      refine .lst h1 (fun z => ?_) (DtAll.oldx hD ds _ h3)
      rcases z with z | z
      · exact h2 z
      · subst z
        rw [hD] at h1
        cases h1
  | .tuple ds, _, h => by
    cases h with
    | tup h1 h3 => exact .tup h1 (DtAll.oldx hD ds _ h3)
  | .dict _, _, h => by
    cases h with
    | emp h => exact .emp h
theorem DtAll.oldx {D : Addr} (hD : H D = none) : ∀ (ds : List PyData) (vs : List V), DtAll K B H vs ds → DtAll K (fun b => B b ∨ b = D) H vs ds
  | [], _, h => by
    cases h
    exact .nil
  | d :: ds, _, h => by
    cases h with
    | cons h1 h2 => exact .cons (Dt.oldx hD d _ h1) (DtAll.oldx hD ds _ h2)
end
end
/-- barred: the state and the list that grows -/
def barP (z : Sp3) (p : Addr) : Addr → Prop := fun a => z.bar a ∨ a = p
section
variable {K : PySem.W.Frag} {σ : L2.St} {H H' H0 H1 : Hp} {ta tb tc te : TE} {t : TT} {d : PyData}
theorem ef_newL {ds : List PyData} (e0 : Ex H0 H) (h : EvN K te σ H ds) (n : noL.noLs ds = true) : EvF K H0 te σ H (.list ds) := fun H1 e Q q => h H1 e Q fun p xs H2 hp e2 h2 hx => q _ H2 e2 (.lst h2 (old_new (e0.trans e) hp) (hx.any n))
/-- a list that grows, odd things in it -/
structure Grow (K : PySem.W.Frag) (z : Sp3) (p : Addr) (ds : List PyData) (H : Hp) : Prop where
  nb : ¬ z.bar p
  nc : p ≠ z.C
  h : ∃ vs, H p = some (.lst vs) ∧ DtAll K (barP z p) H vs ds
theorem Grow.kp {z : Sp3} {p : Addr} {ds : List PyData} (g : Grow K z p ds H) (x : Kp z.bar H H') : Grow K z p ds H' := by
  obtain ⟨vs, h1, h2⟩ := g.h
  exact ⟨g.nb, g.nc, vs, x.k _ _ g.nb h1, h2.ke (x.up fun a h => .inl h)⟩
theorem Grow.app {z : Sp3} {p : Addr} {ds : List PyData} {vs : List V} {u : V} (g : Grow K z p ds H) (h : H p = some (.lst vs)) (hu : Dt K (barP z p) H u d) : Grow K z p (ds ++ [d]) (upd H p (.lst (vs ++ [u]))) := by
  obtain ⟨vs', h1, h2⟩ := g.h
  rw [h] at h1
  obtain rfl := HO.lst.inj (Option.some.inj h1)
  exact ⟨g.nb, g.nc, _, upd_same, (h2.app (.cons hu .nil)).ke ((kp_lst h).up fun a e => .inr e)⟩
theorem Grow.dt {z : Sp3} {p : Addr} {ds : List PyData} (g : Grow K z p ds H) : Dt K No H (.ref p) (.list ds) := by
  obtain ⟨vs, h1, h2⟩ := g.h
  exact .lst h1 (fun z => z) h2.no
/-- where it starts -/
theorem Grow.start {z : Sp3} {p : Addr} {ds : List PyData} {vs : List V} {j : Nat} (sw : SW z H0 j) (e : Ex H0 H) (hp : H p = none) (hd : DtAll K (Old H0) H vs ds) : Grow K z p ds (upd H p (.lst vs)) :=
  ⟨(sw.mono e).nbar hp, (sw.mono e).nC hp, vs, upd_same, (DtAll.oldx hp ds vs (DtAll.wk (fun a h => sw.old h) ds vs hd)).ex (Ex.new hp)⟩
/-- [..] of odd things -/
theorem grow_go {z : Sp3} {ta : TA} {ds : List PyData} {j : Nat} {Q : VK} (sw : SW z H j) (h : EvFA K H ta σ H ds) (hz : ds.length ≤ 100000) (k : ∀ p H2, H p = none → Ex H H2 → Grow K z p ds H2 → Q (.ref p) H2) : tLst ta σ H Q :=
  h H (Ex.refl H) _ fun vs H2 e2 hvs => ⟨sz_of (by rw [hvs.len]; exact hz), fun p hp => k p _ (fresh_back e2 hp) (e2.trans (Ex.new hp)) (Grow.start sw e2 hp hvs)⟩
end
theorem tw0_len {d : PyData} (h : Tw0 d) : (itemsOf d).length ≤ 21 := by
  rcases h with h | ⟨i, rfl, _⟩
  · have : ∀ d ∈ oddL, (itemsOf d).length ≤ 21 := by decide
    exact this d h
  · exact Nat.zero_le _
theorem tw_len {d : PyData} (h : Tw d) : (itemsOf d).length ≤ 21 := by
  rcases h with h | ⟨ms, rfl, h, _⟩ | ⟨ms1, ms2, e, rfl, h, _⟩
  · exact tw0_len h
  · show (ms.map PyData.int).length ≤ 21
    rw [List.length_map]
    exact h
  · show (ms1.map PyData.int ++ [e] ++ ms2.map PyData.int).length ≤ 21
    rw [List.length_append, List.length_append, List.length_map, List.length_map]
    exact h
section
variable {P : Program} {w : World} {K : PySem.W.Frag} {mg : Str → Option Value} {base : Heap} {A0 : Ad}
def bnd : PyData → PyData
  | .int i => if decide (i < 2) = true then .bool (i != 0) else .int i
  | d => d
def spOrders (K : PySem.W.Frag) (z : Sp3) : Sp := fun vs H Q _ => ∃ v ss cs j, vs = [.ref z.S, v] ∧ Dt K No H v (dHist ss cs) ∧ HistOk ss cs ∧ SW z H (j + 30) ∧ ∀ H', Kp z.bar H H' → SW z H' j → Q (.bl true) H'
theorem c__law_orders_good (T : Tx A0 K w mg) (z : Sp3) : C8.Cal P w K mg base 10 "_law_orders_good" (spOrders K z) [] := by
  have c__law_any_order := c__law_any_order (P := P) (base := base) T z
  have c__law_twisted := c__law_twisted (P := P) (base := base) T z
  have c__law_is_order := c__law_is_order (P := P) (base := base) T
  have c_is_order := c_is_order (P := P) (base := base) T
  refine cal_of T.d__law_orders_good sc__law_orders_good (fun vs H Q E h => by obtain ⟨v, ss, cs, j, rfl, _⟩ := h; rfl) (fun f cdv A outer s H vs Q E hr h => ?_)
  obtain ⟨v, ss, cs, j, rfl, hv, ok, sw, k⟩ := h
  refine ⟨_, (pss_cons (ps_set (i := 2) sc__law_orders_good.nd rfl (by first | exact Or.inl rfl | exact Or.inr rfl) (C8.pe_c c__law_any_order hr (by decide) (by rfl) (pa_cons (pv 0) (pa_cons (pe_ix ix_tup (pv 1) pe_int (fun _ _ => rfl)) pa_nil))))
        (pss_cons (ps_set (i := 3) sc__law_orders_good.nd rfl (by first | exact Or.inl rfl | exact Or.inr rfl) (pe_lst (pa_cons (pv 2) (pa_cons (pe_revT (pv 2)) (pa_cons (pe_tupRg rfl (by rfl) T.tuple (prg_1 (by rfl) T.range (pe_callB call_len_seq (by rfl) T.len (by decide +kernel) (pa_cons (pv 2) pa_nil)))) (pa_cons (pe_callTy call_list_of (by rfl) T.list (by decide +kernel) (pa_cons (pv 2) pa_nil)) (pa_cons pe_non (pa_cons (pe_slice sl_tupA (pv 2) po_none (po_some (pe_un un_neg pe_int))) (pa_cons (pe_op op_catA (pv 2) (pe_tup (pa_cons pe_int pa_nil))) (pa_cons (pe_tup pa_nil) pa_nil))))))))))
        (pss_cons (ps_for PassesOwn.never rfl (pi_range1 (by rfl) T.range (pa_cons pe_int pa_nil)) (pg_name (i := 4) sc__law_orders_good.nd rfl (by first | exact Or.inl rfl | exact Or.inr rfl)) (pss_one (ps_expr (pe_bm PySem.F.plainAttrs_list PySem.F.slot_list_append PySem.F.type_list_append mt_append (pv 3) (pa_cons (C8.pe_c c__law_twisted hr (by decide) (by rfl) (pa_cons (pv 0) (pa_cons (pv 2) pa_nil))) pa_nil)))))
        (pss_cons (ps_expr (pe_bm PySem.F.plainAttrs_list PySem.F.slot_list_append PySem.F.type_list_append mt_append (pv 3) (pa_cons (pe_callTy call_tuple_of (by rfl) T.tuple (by decide +kernel) (pa_cons (pe_lc (own := [("_law_one", 5)]) (by rfl) sc__law_orders_good.nd (pi_tup (pv 2)) (blkOk_by (N := N__law_orders_good) (sc := (C8.fnScope s__law_orders_good)) (by decide +kernel)) (fun _ _ _ _ _ => (pg_name (i := 5) sc__law_orders_good.nd rfl (by first | exact Or.inl rfl | exact Or.inr rfl))) (fun _ _ _ _ _ => pts_nil) (fun _ _ _ _ _ => (pe_ifExp (pt_cmpR op_lt (pv 5) pe_int (nomark _)) (pe_callTy call_bool1 (by rfl) T.bool (by decide +kernel) (pa_cons (pv 5) pa_nil)) (pv 5)))) pa_nil)) pa_nil)))
        (pss_cons (ps_if (pt_not (pt_val (C8.pe_c c__law_is_order hr (by decide) (by rfl) (pa_cons (pe_ix ix_tup (pv 1) pe_int (fun _ _ => rfl)) (pa_cons (pv 2) pa_nil))))) (pss_one (ps_ret pe_bl)) pss_nil)
        (pss_one (ps_ret (pe_cmpR (op_eqD hr.units) (pe_lc (own := [("_law_one", 5)]) (by rfl) sc__law_orders_good.nd (pi_list (pv 3)) (blkOk_by (N := N__law_orders_good) (sc := (C8.fnScope s__law_orders_good)) (by decide +kernel)) (fun _ _ _ _ _ => (pg_name (i := 5) sc__law_orders_good.nd rfl (by first | exact Or.inl rfl | exact Or.inr rfl))) (fun _ _ _ _ _ => (pts_one (pt_cmpR op_ne (C8.pe_c c_is_order hr (by decide) (by rfl) (pa_cons (pv 1) (pa_cons (pv 5) pa_nil))) (C8.pe_c c__law_is_order hr (by decide) (by rfl) (pa_cons (pe_ix (show IxR _ (rIxT K) from ix_tup) (pv 1) pe_int (fun _ _ => rfl)) (pa_cons (pv 5) pa_nil))) (nomark _)))) (fun _ _ _ _ _ => pe_int)) (pe_lst pa_nil) (nomark _))))))))), ?_⟩
  try simp only [cxK, cxK2, List.map_cons, List.map_nil]
  have hvt : Dt K No H v (.tuple [dSorts ss, dCalls cs]) := hv
  have be : ∀ c ∈ cs, c.b < c.e := fun c hc => (ok.co c hc).be
  have hc10 := ok.c10
  -- the order
  refine asg_go ?_
  refine ⟨_, rfl, (ed_ixT (K := K) (i := 1) (d := dCalls cs) (evd_var rfl hvt) ed_int rfl).go fun cv H1 e1 hcv => ?_⟩
  refine ⟨cv, cs, j + 30 - cs.length, rfl, hcv, ok.noLs, be, by omega, (sw.mono e1).le (by omega), fun rv H2 ns kp2 sw2 ord hrv => ?_⟩
  have nl : ns.length = cs.length := by rw [ord.1.length_eq, len_rgI]
  have nr : ∀ i ∈ ns, 0 ≤ i ∧ i < cs.length := fun i hi => mem_rgI.mp (ord.1.mem_iff.mp hi)
  have hrv : Dt K No H2 rv (.tuple (ns.map PyData.int)) := hrv
  -- the list
  refine asg_go (grow_go (K := K) (z := z) (ds := [tupI ns, tupI ns.reverse, tupI (rgI ns.length), .list (ns.map PyData.int), .none, tupI (ns.take (ns.length - 1)), tupI (ns ++ [0]), tupI []]) sw2 ?_ (by show 8 ≤ 100000; decide) fun p H3 hp e3 g => ?_)
  · refine efa_cons (ef_of (evd_var rfl hrv) (noLs_ints ns)) (efa_cons (ef_of (evd_is (ed_rev (evd_var rfl hrv)) (by rw [tupI, List.map_reverse])) (noLs_ints _)) (efa_cons (ef_of (evd_is (ed_tupRg (n := ns.length) (evd_is (ed_len (evd_var rfl hrv) .t) (by rw [List.length_map])) (by omega)) (by rw [rgD_ints])) (noLs_ints _)) (efa_cons (ef_newL (Ex.refl _) (evn_list (evd_var rfl hrv) .t) (noLs_ints ns)) (efa_cons (ef_of ed_non)
      (efa_cons (ef_of (evd_is (sl_last (evd_var rfl hrv)) (by rw [tupI, List.map_take, List.length_map])) (noLs_ints _)) (efa_cons (ef_of (evd_is (evd_cat (evd_var rfl hrv) (evd_tup (ds := [.int 0]) (ead_cons ed_int ead_nil) (by decide)) (by rw [List.length_map]; show _ + 1 ≤ _; omega)) (by rw [tupI, List.map_append]; rfl)) (noLs_ints _)) (efa_cons (ef_of (evd_tup (ds := []) ead_nil (by decide))) efa_nil)))))))
  -- four that are twisted
  have kpa : Kp z.bar H H2 := (Kp.of e1).trans kp2
  refine q_forR1 (n := 4) (ea_cons ev_c ea_nil) (by omega) (fun i σ' H' => (∃ o4, σ' = [some (.ref z.S), some v, some rv, some (.ref p), o4, none]) ∧ Kp z.bar H2 H' ∧ SW z H' (j + 5 * (4 - i)) ∧ ∃ es, Grow K z p ([tupI ns, tupI ns.reverse, tupI (rgI ns.length), .list (ns.map PyData.int), .none, tupI (ns.take (ns.length - 1)), tupI (ns ++ [0]), tupI []] ++ es) H' ∧ es.length = i ∧ ∀ d ∈ es, Tw d)
    (fun H4 e4 => ⟨⟨_, rfl⟩, Kp.of (e3.trans e4), (sw2.mono (e3.trans e4)).le (by omega), [], by rw [List.append_nil]; exact g.kp (Kp.of e4), rfl, fun d hd => absurd hd List.not_mem_nil⟩) (fun i σ' H' hi q => ?_) fun σ' H' q => ?_
  · obtain ⟨⟨o4, rfl⟩, kpq, swq, es, gq, el, et⟩ := q
    have hi : i < 4 := by omega
    rw [show j + 5 * (4 - i) = (j + 5 * (4 - (i + 1))) + 5 by omega] at swq
    obtain ⟨vs, hvs, _⟩ := gq.h
    have hrq := kp_noL hrv (noLs_ints ns) kpq
    refine ⟨_, rfl, Or.inl ⟨rfl, vs, sq_of hvs⟩, _, rfl, _, rfl, ?_⟩
    refine ⟨rv, ns, j + 5 * (4 - (i + 1)), rfl, hrq, by omega, fun i hi => by have := nr i hi; omega, swq, fun u H5 d kp5 sw5 htw hu => ?_⟩
    have g5 := gq.kp kp5
    obtain ⟨vs5, hvs5, hds5⟩ := g5.h
    have hl5 : vs5.length = 8 + i := by rw [hds5.len, List.length_append, el]; rfl
    refine ⟨p, vs5, u, rfl, rfl, hvs5, sz_lt (by omega), ⟨_, rfl⟩, (kpq.trans kp5).mutp hp, sw5.mutp g5.nb g5.nc, es ++ [d], ?_, by rw [List.length_append, el]; rfl, fun e he => ?_⟩
    · rw [← List.append_assoc]
      refine g5.app hvs5 (Dt.wk (fun a h => ?_) d u hu)
      rcases h with h | h
      · exact swq.old h
      · subst h
        exact fun hn => by
          rw [hn] at hvs
          cases hvs
    · rcases List.mem_append.mp he with he | he
      · exact et e he
      · obtain rfl := List.mem_singleton.mp he
        exact htw
  · obtain ⟨⟨o4, rfl⟩, kpq, swq, es, gq, el, et⟩ := q
    have hrq : Dt K No H' rv (.tuple (ns.map PyData.int)) := kp_noL hrv (noLs_ints ns) kpq
    obtain ⟨vs, hvs, hds⟩ := gq.h
    have el : es.length = 4 := el
    have hl : vs.length = 12 := by rw [hds.len, List.length_append, el]; rfl
    -- one with bools
    refine q_appD (K := K) (d := .tuple ((ns.map PyData.int).map bnd)) hvs (ev_var rfl) (ed_tuple (EvN.d (lcT_map (K := K) bnd (evd_var rfl hrq) (by rw [List.length_map]; omega) (fun d hd => ?_) fun d hd x H5 e5 hx => ?_)) .l) (by omega) fun u H5 e5 hu => ?_
    · obtain ⟨i, _, rfl⟩ := List.mem_map.mp hd
      show noL (if decide (i < 2) = true then .bool (i != 0) else .int i) = true
      split <;> rfl
    · obtain ⟨i, _, rfl⟩ := List.mem_map.mp hd
      refine evd_if (b := decide (i < 2)) (td_test (ed_b0 (g := fun i j => decide (i < j)) (evd_var rfl hx) ed_int)) (fun hb => evd_is (ed_bool1 (evd_var rfl hx)) ?_) fun hb => evd_is (evd_var rfl hx) ?_
      · show _ = (if decide (i < 2) = true then _ else _)
        rw [if_pos hb]
      · show _ = (if decide (i < 2) = true then _ else _)
        rw [if_neg (by rw [hb]; decide)]
    have nb : noL (.tuple ((ns.map PyData.int).map bnd)) = true := noLs_of fun x hx => by
      rw [List.map_map] at hx
      obtain ⟨i, _, rfl⟩ := List.mem_map.mp hx
      show noL (if decide (i < 2) = true then .bool (i != 0) else .int i) = true
      split <;> rfl
    have g6 := (gq.kp (Kp.of e5)).app (e5 _ _ hvs) (hu.any nb)
    have sw6 := (swq.mono e5).mutp (o := .lst (vs ++ [u])) gq.nb gq.nc
    have kp6 : Kp z.bar H2 (upd H5 p (.lst (vs ++ [u]))) := (kpq.trans (Kp.of e5)).mutp hp
    generalize upd H5 p (.lst (vs ++ [u])) = H6 at g6 sw6 kp6 ⊢
    have hv6 : Dt K No H6 v (.tuple [dSorts ss, dCalls cs]) := kp_noL hvt ok.noL (kpa.trans kp6)
    have hr6 : Dt K No H6 rv (.tuple (ns.map PyData.int)) := kp_noL hrv (noLs_ints ns) kp6
    have hcs : ∀ {σ : L2.St} {H7 : Hp}, Ex H6 H7 → σ[1]? = some (some v) → EvD K (tOp (rIxT K) (tVar 1) (tC (.int 1))) σ H7 (dCalls cs) := fun e h => ed_ixT (i := 1) (d := dCalls cs) (evd_var h (hv6.ex e)) ed_int rfl
    refine q_skip (et_not (td_B (K := K) (ed_call (ead_cons (hcs (Ex.refl _) rfl) (ead_cons (evd_var rfl hr6) ead_nil)) ⟨cs, tupI ns, be, by omega, by show (ns.map PyData.int).length ≤ _; rw [List.length_map]; omega, rfl, rfl⟩ rfl))) (by rw [(orderIn_ints be ns).mpr ord]; rfl) fun H7 e7 => ?_
    have lens : ∀ d ∈ ([tupI ns, tupI ns.reverse, tupI (rgI ns.length), .list (ns.map PyData.int), .none, tupI (ns.take (ns.length - 1)), tupI (ns ++ [0]), tupI []] ++ es ++ [PyData.tuple ((ns.map PyData.int).map bnd)]), (itemsOf d).length ≤ 21 := fun d hd => by
      rcases List.mem_append.mp hd with hd | hd
      · rcases List.mem_append.mp hd with hd | hd
        · simp only [List.mem_cons, List.not_mem_nil, or_false] at hd
          rcases hd with rfl | rfl | rfl | rfl | rfl | rfl | rfl | rfl <;> simp only [itemsOf, tupI, List.length_map, List.length_reverse, List.length_take, List.length_append, len_rgI, List.length_nil, List.length_cons, List.map_nil] <;> omega
        · exact tw_len (et d hd)
      · obtain rfl := List.mem_singleton.mp hd
        show ((ns.map PyData.int).map bnd).length ≤ 21
        rw [List.length_map, List.length_map]
        omega
    have dlen : ([tupI ns, tupI ns.reverse, tupI (rgI ns.length), .list (ns.map PyData.int), .none, tupI (ns.take (ns.length - 1)), tupI (ns ++ [0]), tupI []] ++ es ++ [PyData.tuple ((ns.map PyData.int).map bnd)]).length = 13 := by
      rw [List.length_append, List.length_append, el]
      rfl
    generalize ([tupI ns, tupI ns.reverse, tupI (rgI ns.length), .list (ns.map PyData.int), .none, tupI (ns.take (ns.length - 1)), tupI (ns ++ [0]), tupI []] ++ es ++ [PyData.tuple ((ns.map PyData.int).map bnd)]) = DS at g6 lens dlen
    refine sd_ret (K := K) (d := .bool true) (evd_is (ed_eqL (ns := []) (ms := []) (EvN.d (evn_is (evn_lcL (K := K) (ds := DS) (fun _ => false) (fun _ => .int 1) (evd_var rfl (g6.dt.ex e7)) (by omega) fun d hd x H8 e8 hx => ?_) ?_)) (evd_lst (ds := []) ead_nil (by decide))) rfl) fun u H8 e8 hu => ?_
    · have l := lens d hd
      refine tk_name (td_test (evd_is (ed_neB (i := orderIn cs d) (j := orderIn cs d) (ed_call (ead_cons (evd_var rfl ((hv6.ex e7).ex e8)) (ead_cons (evd_var rfl hx) ead_nil)) ⟨ss, cs, d, ok, by omega, rfl, rfl⟩ rfl) (ed_call (ead_cons (hcs (e7.trans e8) rfl) (ead_cons (evd_var rfl hx) ead_nil)) ⟨cs, d, be, by omega, by omega, rfl, rfl⟩ rfl)) (by simp))) (fun _ => ed_int) fun _ => rfl
    · unfold fm
      simp
    · cases hu
      exact k H8 ((kpa.trans kp6).trans (Kp.of (e7.trans e8))) (((sw6.mono e7).mono e8).le (by omega))
end
end SB
end

section
set_option Elab.async false
set_option linter.all false
set_option maxRecDepth 100000
set_option maxHeartbeats 2000000
set_option autoImplicit false
/-! SbL16: are numbers told well. -/
namespace SB
open PySem PySem.Spec PyProof.Rows L2 Evl
abbrev s__law_numbers_good : Stmt := topS 64
abbrev N__law_numbers_good : List Str := ["_law_state", "_law_history_here", "_law_marks", "_law_k", "_law_one", "_law_some", "_law_mark", "_law_far", "_law_late", "_law_order"]
theorem sc__law_numbers_good : FnScope N__law_numbers_good ["_law_state", "_law_history_here"] (C8.fnScope s__law_numbers_good) := C8.fnScope_by (by decide +kernel)
def lcs__law_numbers_good_20 : Scope := lcSc (stV ((stB ((C8.fnBody s__law_numbers_good).getD 1 (.Pass ⟨0, 0, 0, 0⟩))).getD 0 (.Pass ⟨0, 0, 0, 0⟩)))
local macro_rules | `(tactic| walk_at "sd") => `(tactic| first | with_reducible rfl | assumption | exact SeqD.t | exact SeqD.l | rfl | omega)
local macro_rules | `(tactic| walk_at "dt") => `(tactic| first | assumption | exact Dt.int _ | exact Dt.bl _ | exact Dt.str _ | exact Dt.non | exact Dt.ex (by assumption) (by assumption))
local macro_rules | `(tactic| walk_at "ev") => `(tactic| first
  | assumption
  | with_reducible apply ed_int
  | with_reducible apply ed_str
  | with_reducible apply ed_bl
  | with_reducible apply ed_non
  | with_reducible apply ead_nil
  | with_reducible exact et_yes
  | with_reducible exact eo_none
  | exact evd_var rfl (by walk_at "dt")
  | ((with_reducible apply td_test); walk_at "ev")
  | ((with_reducible apply td_B); walk_at "ev")
  | ((with_reducible apply et_not); walk_at "ev")
  | ((with_reducible apply et_and); walk_at "ev"; intro _; walk_at "ev")
  | ((with_reducible apply et_or); walk_at "ev"; intro _; walk_at "ev")
  | ((with_reducible apply ead_cons); walk_at "ev"; walk_at "ev")
  | ((with_reducible apply eod_some); walk_at "ev")
  | ((with_reducible apply evd_tup); walk_at "ev"; first | decide | (focus (simp; done)) | omega)
  | ((with_reducible apply evd_lst); walk_at "ev"; first | decide | (focus (simp; done)) | omega)
  | ((with_reducible apply ed_not); walk_at "ev")
  | ((with_reducible apply ed_and); walk_at "ev"; intro _; walk_at "ev")
  | ((with_reducible apply ed_or); walk_at "ev"; intro _; walk_at "ev")
  | ((with_reducible apply ed_i0); walk_at "ev"; walk_at "ev")
  | ((with_reducible apply ed_b0); walk_at "ev"; walk_at "ev")
  | ((with_reducible apply ed_eqI); walk_at "ev"; walk_at "ev")
  | ((with_reducible apply ed_eqS); walk_at "ev"; walk_at "ev")
  | ((with_reducible apply ed_eqB); walk_at "ev"; walk_at "ev")
  | ((with_reducible apply ed_neI); walk_at "ev"; walk_at "ev")
  | ((with_reducible apply ed_neS); walk_at "ev"; walk_at "ev")
  | ((with_reducible apply ed_neB); walk_at "ev"; walk_at "ev")
  | ((with_reducible apply ed_isN); walk_at "ev"; walk_at "ev")
  | ((with_reducible apply ed_notN); walk_at "ev"; walk_at "ev")
  | ((with_reducible apply ed_chain); walk_at "ev"; walk_at "ev"; walk_at "ev")
  | ((with_reducible apply ed_ixT); walk_at "ev"; walk_at "ev"; walk_at "sd")
  | ((with_reducible apply ed_ixL); walk_at "ev"; walk_at "ev"; walk_at "sd")
  | ((with_reducible apply ed_isi); walk_at "ev"; (first | exact kit_int _ | exact kit_bool _ | exact kit_tuple _ | exact kit_str _))
  | ((with_reducible apply ed_len); walk_at "ev"; walk_at "sd")
  | ((with_reducible apply ed_call); walk_at "ev"; (first | assumption | exact ⟨_, rfl, rfl⟩ | exact ⟨_, _, rfl, rfl⟩ | exact ⟨_, _, _, rfl, rfl⟩); exact rfl)
  | ((with_reducible apply ed_max2); walk_at "ev"; walk_at "ev")
  | ((with_reducible apply ed_min2); walk_at "ev"; walk_at "ev")
  | ((with_reducible apply ed_list); walk_at "ev"; walk_at "sd")
  | ((with_reducible apply ed_tuple); walk_at "ev"; walk_at "sd")
  | ((with_reducible apply ed_neg); walk_at "ev"))

def pairD (p : Int × Int) : PyData := .tuple [.int p.1, .int p.2]
theorem noLs_pairs (ms : List (Int × Int)) : noL.noLs (ms.map pairD) = true := noLs_of fun x hx => by
  obtain ⟨m, _, rfl⟩ := List.mem_map.mp hx
  rfl
/-- marks, each within its call -/
structure MarksOk (cs : List Cl) (i : Nat) (ms : List (Int × Int)) : Prop where
  len : ms.length = i
  at_ : ∀ (t : Nat) (m : Int × Int), ms[t]? = some m → m.2 = (t : Int) ∧ ∃ c, cs[t]? = some c ∧ 16 * c.b < m.1 ∧ m.1 < 16 * c.e
  nd : (ms.map Prod.fst).Nodup
theorem MarksOk.nil (cs : List Cl) : MarksOk cs 0 [] := ⟨rfl, fun t m h => by simp at h, List.nodup_nil⟩
theorem MarksOk.step {cs : List Cl} {i : Nat} {ms : List (Int × Int)} {c : Cl} {m : Int} (h : MarksOk cs i ms) (hc : cs[i]? = some c) (h0 : 16 * c.b < m) (h1 : m < 16 * c.e) (hn : m ∉ ms.map Prod.fst) : MarksOk cs (i + 1) (ms ++ [(m, (i : Int))]) := by
  refine ⟨by rw [List.length_append, h.len]; rfl, fun t p hp => ?_, ?_⟩
  · by_cases e : t < ms.length
    · rw [List.getElem?_append_left e] at hp
      exact h.at_ t p hp
    · have ht : t = i := by
        have := (List.getElem?_eq_some_iff.mp hp).1
        rw [List.length_append, h.len] at this
        have l := h.len
        have : t < i + 1 := this
        omega
      subst ht
      rw [List.getElem?_append_right (by rw [h.len]; exact Nat.le_refl _), h.len, Nat.sub_self] at hp
      obtain rfl := Option.some.inj hp
      exact ⟨rfl, c, hc, h0, h1⟩
  · rw [List.map_append, List.nodup_append]
    refine ⟨h.nd, List.nodup_cons.mpr ⟨List.not_mem_nil, List.nodup_nil⟩, fun a ha b hb e => ?_⟩
    obtain rfl := List.mem_singleton.mp hb
    exact hn (e ▸ ha)
theorem MarksOk.snd {cs : List Cl} {i : Nat} {ms : List (Int × Int)} (h : MarksOk cs i ms) : ms.map Prod.snd = rgI i := by
  refine List.ext_getElem? fun t => ?_
  unfold rgI
  rw [List.getElem?_map, List.getElem?_map]
  by_cases e : t < i
  · have hl : t < ms.length := by rw [h.len]; exact e
    have hm : ms[t]? = some ms[t] := by simp [hl]
    rw [hm, List.getElem?_range e]
    show some (ms[t].2) = some (t : Int)
    rw [(h.at_ t _ hm).1]
  · rw [List.getElem?_eq_none (by rw [h.len]; omega), List.getElem?_eq_none (by rw [List.length_range]; omega)]
    rfl
theorem MarksOk.ord {cs : List Cl} {ms zs : List (Int × Int)} (h : MarksOk cs cs.length ms) (p : zs.Perm ms) (up : zs.Pairwise fun a b => a.1 < b.1) : OrdN cs (zs.map Prod.snd) := by
  refine ⟨by rw [← h.snd]; exact p.map _, ?_⟩
  rw [List.pairwise_map]
  refine List.Pairwise.imp_of_mem (fun {a b} ha hb lt => ?_) up
  obtain ⟨t, ht⟩ := List.getElem?_of_mem (p.mem_iff.mp ha)
  obtain ⟨u, hu⟩ := List.getElem?_of_mem (p.mem_iff.mp hb)
  obtain ⟨e1, c, hc, c0, c1⟩ := h.at_ t a ht
  obtain ⟨e2, d, hd, d0, d1⟩ := h.at_ u b hu
  unfold NB
  rw [e1, e2, Int.toNat_natCast, Int.toNat_natCast, before_of hd hc]
  exact decide_eq_false (by omega)
theorem rg_ints (lo : Int) (n : Nat) : rgD lo n = ((List.range n).map fun (i : Nat) => lo + (i : Int)).map PyData.int := by
  unfold rgD
  rw [List.map_map]
  rfl
/-- one of fifteen is free -/
theorem mark_free (lo : Int) (us : List Int) (h : us.length ≤ 14) : ∃ x ∈ ((List.range 15).map fun (i : Nat) => lo + (i : Int)), x ∉ us := by
  refine Classical.byContradiction fun hc => ?_
  have all : ∀ x ∈ ((List.range 15).map fun (i : Nat) => lo + (i : Int)), x ∈ us := fun x hx => Classical.byContradiction fun q => hc ⟨x, hx, q⟩
  have nd : ((List.range 15).map fun (i : Nat) => lo + (i : Int)).Nodup := by
    unfold List.Nodup
    rw [List.pairwise_map]
    exact List.Pairwise.imp (fun {a b} (h : a < b) e => by omega) List.pairwise_lt_range
  have := nodup_lenI _ _ nd all
  rw [List.length_map, List.length_range] at this
  omega
section
variable {K : PySem.W.Frag} {σ : L2.St} {H H' H0 H1 : Hp} {ta tb tc te : TE} {t : TT} {d : PyData}
theorem walk_enumT {a : Addr} {xs : List V} : Walk (ItE K a) xs.length (fun H => SqT K H a xs) (YPair (fun i => some (.int (i : Nat))) (fun i => xs[i]?)) := by
  refine ⟨fun i _ hi q => ⟨xs, xs[i], q, by simp [hi]⟩, fun _ q => ⟨xs, q, rfl⟩, fun i H v H' _ q y => ?_⟩
  obtain ⟨T, x, h1, h2, h3, h4⟩ := y
  exact ⟨T, .int (i : Nat), x, h1, h2, h3, rfl, h4 xs q⟩
/-- sorted(xs), pairs with different first ints -/
theorem sortP_go {a : Addr} {cs : List (Int × Int)} {vs : List V} {Q : VK} (hte : Ev te σ H (.ref a)) (hl : H a = some (.lst vs)) (hd : DtAll K No H vs (cs.map pairD)) (nd : (cs.map Prod.fst).Nodup)
    (k : ∀ p ys zs H1, Ex H H1 → H1 p = none → (zs : List (Int × Int)).Perm cs → zs.Pairwise (fun c d => c.1 < d.1) → DtAll K No H1 ys (zs.map pairD) → Q (.ref p) (upd H1 p (.lst ys))) : tCB (rSortF K) (tCons te tNil) σ H Q :=
  hte H (Ex.refl H) _ fun H1 e1 => by
    have hd1 := hd.ex e1
    have fst : ∀ (x : V) (c : Int × Int), Dt K No H1 x (pairD c) → FstV K H1 x c.1 := fun x c h => by
      obtain ⟨p, xs, rfl, hs, hx⟩ := h.toTup
      cases hx with
      | cons h1 h2 =>
        rw [h1.toInt] at hs
        exact ⟨p, _, rfl, hs⟩
    refine ⟨a, vs, cs.map Prod.fst, rfl, SqL.of (e1 _ _ hl), by rw [hd.len, List.length_map, List.length_map], fun i x n hx hn => ?_, nd, fun ys p pm srt hp => ?_⟩
    · obtain ⟨d, hdi, hxd⟩ := hd1.get hx
      rw [List.getElem?_map, Option.map_eq_some_iff] at hdi hn
      obtain ⟨c, hc, rfl⟩ := hdi
      obtain ⟨c', hc', rfl⟩ := hn
      rw [hc] at hc'
      obtain rfl := Option.some.inj hc'
      exact fst x c hxd
    · obtain ⟨ds, pd, hys⟩ := perm_data hd1 pm
      obtain ⟨zs, pz, rfl⟩ := perm_of_map pairD pd
      refine k p ys zs H1 e1 hp pz ?_ hys
      rw [List.pairwise_iff_getElem]
      intro i j hi hj hij
      have l : ys.length = zs.length := by rw [hys.len, List.length_map]
      have q := List.pairwise_iff_getElem.mp srt i j (by omega) (by omega) hij
      obtain ⟨d1, a1, b1⟩ := hys.get (i := i) (v := ys[i]'(by omega)) (by simp [l, hi])
      obtain ⟨d2, a2, b2⟩ := hys.get (i := j) (v := ys[j]'(by omega)) (by simp [l, hj])
      rw [List.getElem?_map, List.getElem?_eq_getElem hi] at a1
      rw [List.getElem?_map, List.getElem?_eq_getElem hj] at a2
      obtain rfl := Option.some.inj a1
      obtain rfl := Option.some.inj a2
      exact q _ _ (fst _ _ b1) (fst _ _ b2)
theorem lc_sortP {gt : TG} {vs2 : List Nat} {a : Addr} {cs : List (Int × Int)} {vs : List V} {Q : VK} (f : PyData → Bool) (g : PyData → PyData) (hte : Ev tc σ H (.ref a)) (hl : H a = some (.lst vs)) (hd : DtAll K No H vs (cs.map pairD)) (nd : (cs.map Prod.fst).Nodup) (hz : cs.length ≤ 40000)
    (tk : ∀ m ∈ cs, ∀ H1, Ex H H1 → TkW K σ gt t te vs2 H1 (pairD m) (f (pairD m)) (g (pairD m)))
    (k : ∀ zs : List (Int × Int), zs.Perm cs → zs.Pairwise (fun c d => c.1 < d.1) → ∀ p xs H2, Ex H H2 → H2 p = some (.lst xs) → DtAll K No H2 xs (fm f g (zs.map pairD)) → Q (.ref p) H2) : tLc (iList K (tCB (rSortF K) (tCons tc tNil))) gt t te vs2 σ H Q :=
  sortP_go hte hl hd nd fun p ys zs H1 e hp pz up hys => by
    refine ⟨p, rfl, ⟨ys, SqL.of upd_same⟩, ?_⟩
    refine evn_it (K := K) (ds := zs.map pairD) (Q := Q) f g (Ex.refl _) (WalkD.l (SqL.of upd_same) (hys.ex (Ex.new hp))) (by rw [List.length_map, pz.length_eq]; exact hz) (fun p2 xs2 H6 hp2 e6 h6 hx6 => k zs pz up p2 xs2 H6 ((e.trans (Ex.new hp)).trans e6) h6 hx6) fun d hd => ?_
    obtain ⟨m, hm, rfl⟩ := List.mem_map.mp hd
    exact tk m (pz.mem_iff.mp hm) _ (e.trans (Ex.new hp))
theorem ed_isB {i j : Bool} (ha : EvD K ta σ H (.bool i)) (hb : EvD K tb σ H (.bool j)) : EvD K (tOp rIsB ta tb) σ H (.bool (decide (i = j))) := evd_op ha hb fun x y H1 _ hx hy Q q => by
  cases hx
  cases hy
  exact ⟨i, j, rfl, rfl, q _ H1 (Ex.refl H1) (.bl _)⟩
/-- [far[0] for far in marks] -/
theorem ed_firsts {i j : Nat} {p : Addr} {vs : List V} {ms : List (Int × Int)} (hi : σ[i]? = some (some (.ref p))) (hp : H p = some (.lst vs)) (hd : DtAll K No H vs (ms.map pairD)) (hz : ms.length ≤ 40000) (hj : ∀ v : V, (σ.set j (some v))[j]? = some (some v)) :
    EvD K (tLc (iList K (tVar i)) (gName j) tYes (tOp (rIxT K) (tVar j) (tC (.int 0))) [j]) σ H (.list ((ms.map Prod.fst).map PyData.int)) :=
  EvN.d (evn_is (lcL_map (K := K) (ds := ms.map pairD) (fun d => match d with | .tuple (x :: _) => x | _ => .none) (evd_var hi (.lst hp (fun z => z) hd)) (by rw [List.length_map]; exact hz) (fun d hd => by
    obtain ⟨m, _, rfl⟩ := List.mem_map.mp hd
    rfl) fun d hd x H1 e hx => by
    obtain ⟨m, _, rfl⟩ := List.mem_map.mp hd
    exact ed_ixT (ds := [.int m.1, .int m.2]) (i := 0) (evd_var (hj x) hx) ed_int rfl) (by
    rw [List.map_map, List.map_map]
    exact List.map_congr_left fun m _ => rfl))
end
section
variable {P : Program} {w : World} {K : PySem.W.Frag} {mg : Str → Option Value} {base : Heap} {A0 : Ad}
def spNumbers (K : PySem.W.Frag) (z : Sp3) : Sp := fun vs H Q _ => ∃ v ss cs j, vs = [.ref z.S, v] ∧ Dt K No H v (dHist ss cs) ∧ HistOk ss cs ∧ SW z H (j + 20) ∧ ∀ H', Kp z.bar H H' → SW z H' j → Q (.bl true) H'
theorem c__law_numbers_good (T : Tx A0 K w mg) (z : Sp3) : C8.Cal P w K mg base 10 "_law_numbers_good" (spNumbers K z) [] := by
  have c__law_draw := c__law_draw (P := P) (base := base) T z
  have c__law_is_order := c__law_is_order (P := P) (base := base) T
  have c_is_order := c_is_order (P := P) (base := base) T
  refine cal_of T.d__law_numbers_good sc__law_numbers_good (fun vs H Q E h => by obtain ⟨v, ss, cs, j, rfl, _⟩ := h; rfl) (fun f cdv A outer s H vs Q E hr h => ?_)
  obtain ⟨v, ss, cs, j, rfl, hv, ok, sw, k⟩ := h
  refine ⟨_, (pss_cons (ps_set (i := 2) sc__law_numbers_good.nd rfl (by first | exact Or.inl rfl | exact Or.inr rfl) (pe_lst pa_nil))
        (pss_cons (ps_for PassesOwn.never rfl (pi_enumT (by rfl) T.enumerate (pa_cons (pe_ix ix_tup (pv 1) pe_int (fun _ _ => rfl)) pa_nil)) (pg_tup rfl (pgs_cons (pg_name (i := 3) sc__law_numbers_good.nd rfl (by first | exact Or.inl rfl | exact Or.inr rfl)) (pgs_cons (pg_name (i := 4) sc__law_numbers_good.nd rfl (by first | exact Or.inl rfl | exact Or.inr rfl)) pgs_nil))) (pss_cons (ps_setLc (i := 5) (own := [("_law_mark", 6)]) (by rfl) sc__law_numbers_good.nd rfl rfl (sw_true rfl rfl rfl (by decide +kernel)) (pi_range2 (by rfl) T.range (pa_cons (pe_op op_add (pe_op op_mul pe_int (pe_ix ix_tup (pv 4) pe_int (fun _ _ => rfl))) pe_int) (pa_cons (pe_op op_add (pe_op op_mul pe_int (pe_ix ix_tup (pv 4) pe_int (fun _ _ => rfl))) pe_int) pa_nil))) (blkOk_by (N := N__law_numbers_good) (sc := (C8.fnScope s__law_numbers_good)) (by decide +kernel)) (fun _ _ _ _ _ => (pg_name (i := 6) sc__law_numbers_good.nd rfl (by first | exact Or.inl rfl | exact Or.inr rfl))) (fun _ _ _ _ _ => (pts_one (pt_cmpR (show OpR _ _ (rIn K true) from op_notIn_seq) (pv 6) (by (apply pe_lc (own := [("_law_far", 7)])); (focus (exact rfl)); (focus (exact sc__law_numbers_good.nd)); (focus (exact (show PI _ _ _ (iList K _) from pi_list (pv 2)))); (focus (exact blkOk_by (N := N__law_numbers_good) (sc := (relS (lcs__law_numbers_good_20) (C8.fnScope s__law_numbers_good))) (by decide +kernel))); (focus (exact fun _ _ _ _ _ => (pg_name (i := 7) sc__law_numbers_good.nd rfl (by first | exact Or.inl rfl | exact Or.inr rfl)))); (focus (exact fun _ _ _ _ _ => pts_nil)); (focus (exact (fun _ _ _ _ _ => (pe_ix (show IxR _ (rIxT K) from ix_tup) (pv 7) pe_int (fun _ _ => rfl))))); all_goals first | (intro _; rfl) | skip) (by rfl)))) (fun _ _ _ _ _ => (pv 6)))
          (pss_cons (ps_set (i := 8) sc__law_numbers_good.nd rfl (by first | exact Or.inl rfl | exact Or.inr rfl) (pe_op op_sub (pe_op op_sub (pe_op op_mul pe_int (pe_ix ix_tup (pv 4) pe_int (fun _ _ => rfl))) pe_int) (C8.pe_c c__law_draw hr (by decide) (by rfl) (pa_cons (pv 0) (pa_cons pe_int pa_nil)))))
          (pss_one (ps_expr (pe_bm PySem.F.plainAttrs_list PySem.F.slot_list_append PySem.F.type_list_append mt_append (pv 2) (pa_cons (pe_tup (pa_cons (pe_ifExp (PW.pt (pw_and (pt_cmpR op_eq (C8.pe_c c__law_draw hr (by decide) (by rfl) (pa_cons (pv 0) (pa_cons pe_int pa_nil))) pe_int (nomark _)) (pw_and1 (pt_cmpR op_notIn_seq (pv 8) (pe_lc (own := [("_law_far", 7)]) (by rfl) sc__law_numbers_good.nd (pi_list (pv 2)) (blkOk_by (N := N__law_numbers_good) (sc := (C8.fnScope s__law_numbers_good)) (by decide +kernel)) (fun _ _ _ _ _ => (pg_name (i := 7) sc__law_numbers_good.nd rfl (by first | exact Or.inl rfl | exact Or.inr rfl))) (fun _ _ _ _ _ => pts_nil) (fun _ _ _ _ _ => (pe_ix (show IxR _ (rIxT K) from ix_tup) (pv 7) pe_int (fun _ _ => rfl)))) (by rfl))))) (pv 8) (pe_ix ix_list (pv 5) pe_int (fun _ _ => rfl))) (pa_cons (pv 3) pa_nil))) pa_nil)))))))
        (pss_cons (ps_set (i := 9) sc__law_numbers_good.nd rfl (by first | exact Or.inl rfl | exact Or.inr rfl) (pe_callTy call_tuple_of (by rfl) T.tuple (by decide +kernel) (pa_cons (pe_lc (own := [("_law_mark", 6), ("_law_k", 3)]) (by rfl) sc__law_numbers_good.nd (pi_list (pe_callB cr_sortF (by rfl) T.sorted (by decide +kernel) (pa_cons (pv 2) pa_nil))) (blkOk_by (N := N__law_numbers_good) (sc := (C8.fnScope s__law_numbers_good)) (by decide +kernel)) (fun _ _ _ _ _ => (show PG _ _ (gTup K 2 _) from pg_tup rfl (pgs_cons (pg_name (i := 6) sc__law_numbers_good.nd rfl (by first | exact Or.inl rfl | exact Or.inr rfl)) (pgs_cons (pg_name (i := 3) sc__law_numbers_good.nd rfl (by first | exact Or.inl rfl | exact Or.inr rfl)) pgs_nil)))) (fun _ _ _ _ _ => pts_nil) (fun _ _ _ _ _ => (pv 3))) pa_nil)))
        (pss_one (ps_ret (pe_and (pe_cmpR op_isBl (C8.pe_c c_is_order hr (by decide) (by rfl) (pa_cons (pv 1) (pa_cons (pv 9) pa_nil))) pe_bl (nomark _)) (pe_one (C8.pe_c c__law_is_order hr (by decide) (by rfl) (pa_cons (pe_ix ix_tup (pv 1) pe_int (fun _ _ => rfl)) (pa_cons (pv 9) pa_nil)))))))))), ?_⟩
  try simp only [cxK, cxK2, List.map_cons, List.map_nil]
  have hvt : Dt K No H v (.tuple [dSorts ss, dCalls cs]) := hv
  have be : ∀ c ∈ cs, c.b < c.e := fun c hc => (ok.co c hc).be
  have hc10 := ok.c10
  refine asg_go ((evn_lst (K := K) (ds := []) ead_nil (by decide)).go fun p v0 H1 hp e1 h1 hd0 => ?_)
  cases hd0
  have nb := sw.nbar hp
  have nc := sw.nC hp
  refine (ed_ixT (K := K) (i := 1) (d := dCalls cs) (evd_var rfl (hvt.ex e1)) ed_int rfl).go fun cv H2 e2 hcv => ?_
  obtain ⟨a, xs, rfl, hs, hd⟩ := hcv.toTup
  have xl : xs.length = cs.length := by rw [hd.len, List.length_map]
  refine ⟨a, xs, rfl, hs, for_it (walk_enumT (xs := xs)) (fun i σ' H' => (∃ o3 o4 o5 o6 o7 o8 o9, σ' = [some (.ref z.S), some v, some (.ref p), o3, o4, o5, o6, o7, o8, o9]) ∧ Kp z.bar H H' ∧ SqT K H' a xs ∧ DtAll K No H' xs (cs.map Cl.data) ∧ SW z H' (j + 2 * (10 - i)) ∧ ∃ vs ms, H' p = some (.lst vs) ∧ DtAll K No H' vs (ms.map pairD) ∧ MarksOk cs i ms)
    ⟨⟨_, _, _, _, _, _, _, rfl⟩, Kp.of (e1.trans e2), hs, hd, sw.mono (e1.trans e2), [], [], e2 _ _ h1, .nil, MarksOk.nil cs⟩ (fun i σ H _ q => q.2.2.1) (fun i x σ' H3 H4 hi q y => ?_) fun σ' H3 q => ?_⟩
  · obtain ⟨⟨o3, o4, o5, o6, o7, o8, o9, rfl⟩, kpq, hsq, hdq, swq, vs, ms, hvs, hds, MO⟩ := q
    obtain ⟨T0, x0, y0, rfl, hT0, rfl, ex, ey⟩ := y
    obtain rfl := Option.some.inj ex
    have hi' : i < cs.length := by omega
    obtain ⟨c, hc⟩ : ∃ c, cs[i]? = some c := ⟨cs[i], by simp [hi']⟩
    have okc := ok.co c (List.mem_of_getElem? hc)
    have b0 := okc.b0
    have b1 := okc.be
    have b2 := okc.e1
    obtain ⟨y', hy', hyd⟩ := hdq.at (i := i) (d := c.data) (by rw [List.getElem?_map, hc]; rfl)
    have ey : xs[i]? = some y0 := ey
    rw [ey] at hy'
    obtain rfl := Option.some.inj hy'
    refine gtup2_go upd_same ?_
    have e4 : Ex H3 (upd H3 T0 (.tup [.int (i : Nat), y0])) := Ex.new hT0
    have nds : noL.noLs (ms.map pairD) = true := noLs_pairs ms
    have ml : ms.length ≤ 10 := by rw [MO.len]; omega
    generalize upd H3 T0 (.tup [.int (i : Nat), y0]) = H4 at e4 ⊢
    have hy4 := hyd.ex e4
    have hvs4 := e4 _ _ hvs
    have hds4 := hds.ex e4
    have elo : EvD K (tOp (rI0 fun i j => V.int (i + j)) (tOp (rI CMul fun i j => V.int (i * j)) (tC (V.int 16)) (tOp (rIxT K) (tVar 4) (tC (V.int 0)))) (tC (V.int 1))) [some (.ref z.S), some v, some (.ref p), some (.int (i : Nat)), some y0, o5, o6, o7, o8, o9] H4 (.int (16 * c.b + 1)) := ed_i0 (g := fun i j => i + j) (ed_i (C := CMul) (g := fun i j => i * j) ed_int (ed_ixT (ds := c.items) (evd_var rfl hy4) ed_int (data_b c)) (.inl ⟨by decide, by decide⟩)) ed_int
    have ehi : EvD K (tOp (rI0 fun i j => V.int (i + j)) (tOp (rI CMul fun i j => V.int (i * j)) (tC (V.int 16)) (tOp (rIxT K) (tVar 4) (tC (V.int 0)))) (tC (V.int 16))) [some (.ref z.S), some v, some (.ref p), some (.int (i : Nat)), some y0, o5, o6, o7, o8, o9] H4 (.int (16 * c.b + 16)) := ed_i0 (g := fun i j => i + j) (ed_i (C := CMul) (g := fun i j => i * j) ed_int (ed_ixT (ds := c.items) (evd_var rfl hy4) ed_int (data_b c)) (.inl ⟨by decide, by decide⟩)) ed_int
    have efi : ∀ {o3 o4 o5 o6 o7 o8 o9 : Option V} {H7 : Hp} {vs7 : List V}, H7 p = some (.lst vs7) → DtAll K No H7 vs7 (ms.map pairD) → EvD K (tLc (iList K (tVar 2)) (gName 7) tYes (tOp (rIxT K) (tVar 7) (tC (V.int 0))) [7]) [some (.ref z.S), some v, some (.ref p), o3, o4, o5, o6, o7, o8, o9] H7 (.list ((ms.map Prod.fst).map PyData.int)) := fun h h' => ed_firsts (i := 2) (j := 7) rfl h h' (by omega) fun _ => rfl
    obtain ⟨SO, hSO⟩ : ∃ SO, ((List.range 15).map fun (i : Nat) => (16 * c.b + 1) + (i : Int)).filter (fun x => !decide (x ∈ ms.map Prod.fst)) = SO := ⟨_, rfl⟩
    refine asg_go ((evn_is (evn_lcR2 (K := K) (lo := 16 * c.b + 1) (n := 16 * c.b + 16) (fun d => !decide (toI d ∈ ms.map Prod.fst)) (fun d => d) (ead_cons elo (ead_cons ehi ead_nil)) (by omega) fun t ht H5 e5 => tk_name (td_test (K := K) (ed_niI (i := 16 * c.b + 1 + (t : Int)) (evd_var rfl (.int _)) (efi (e5 _ _ hvs4) (hds4.ex e5)) .l)) (fun _ => evd_var rfl (.int _)) fun _ => rfl) (es := SO.map PyData.int) ?_).go fun pf vf H5 hpf e5 hf hvf => ?_)
    · rw [show (16 * c.b + 16 - (16 * c.b + 1)).toNat = 15 by omega, rg_ints, ← hSO]
      unfold fm
      rw [List.map_id', List.filter_map]
      rfl
    obtain rfl := hvf.toInts
    have hSOm : ∀ x ∈ SO, 16 * c.b < x ∧ x < 16 * c.e ∧ x ∉ ms.map Prod.fst := fun x hx => by
      rw [← hSO, List.mem_filter] at hx
      obtain ⟨h1, h2⟩ := hx
      obtain ⟨t, ht, rfl⟩ := List.mem_map.mp h1
      have := List.mem_range.mp ht
      exact ⟨by omega, by omega, by simpa using h2⟩
    obtain ⟨s0, SO', rfl⟩ : ∃ s0 SO', SO = s0 :: SO' := by
      obtain ⟨x, hx, hn⟩ := mark_free (16 * c.b + 1) (ms.map Prod.fst) (by rw [List.length_map]; omega)
      cases SO with
      | nil =>
        have : x ∈ ([] : List Int) := by
          rw [← hSO, List.mem_filter]
          exact ⟨hx, by simpa using hn⟩
        exact absurd this List.not_mem_nil
      | cons a b => exact ⟨a, b, rfl⟩
    -- late
    have sw5 := (swq.mono e4).mono e5
    rw [show j + 2 * (10 - i) = (j + 2 * (10 - (i + 1)) + 1) + 1 by omega] at sw5
    have hlate : EvD K (tOp (rI0 fun i j => V.int (i - j)) (tOp (rI CMul fun i j => V.int (i * j)) (tC (V.int 16)) (tOp (rIxT K) (tVar 4) (tC (V.int 1)))) (tC (V.int 1))) [some (.ref z.S), some v, some (.ref p), some (.int (i : Nat)), some y0, some (.ref pf), o6, o7, o8, o9] H5 (.int (16 * c.e - 1)) := ed_i0 (g := fun i j => i - j) (ed_i (C := CMul) (g := fun i j => i * j) ed_int (ed_ixT (ds := c.items) (evd_var rfl (hy4.ex e5)) ed_int (data_e c)) (.inl ⟨by decide, by decide⟩)) ed_int
    refine asg_go (op_go (hlate.go fun w6 H6 e6 hw6 => ?_))
    obtain rfl := hw6.toInt
    refine draw_go (K := K) (j := j + 2 * (10 - (i + 1)) + 1) rfl (sw5.mono e6) ed_int (by decide) (by decide) fun r H7 r0 r1 kp7 sw7 => ⟨_, _, rfl, rfl, ?_⟩
    have hvs6 := e6 _ _ (e5 _ _ hvs4)
    refine ⟨_, rfl, Or.inl ⟨rfl, vs, sq_of (kp7.k p _ nb hvs6)⟩, ?_⟩
    have nbf : ¬ z.bar pf := (swq.mono e4).nbar hpf
    have kp37 : Kp z.bar H3 H7 := (Kp.of ((e4.trans e5).trans e6)).trans kp7
    -- the mark is put down
    have fin : ∀ m H8, Kp z.bar H3 H8 → SW z H8 (j + 2 * (10 - (i + 1))) → 16 * c.b < m → m < 16 * c.e → m ∉ ms.map Prod.fst → ∀ {D : Ends} {o6 o7 : Option V} {L : V}, (∀ σ' H', ((∃ o3 o4 o5 o6 o7 o8 o9, σ' = [some (.ref z.S), some v, some (.ref p), o3, o4, o5, o6, o7, o8, o9]) ∧ Kp z.bar H H' ∧ SqT K H' a xs ∧ DtAll K No H' xs (cs.map Cl.data) ∧ SW z H' (j + 2 * (10 - (i + 1))) ∧ ∃ vs ms, H' p = some (.lst vs) ∧ DtAll K No H' vs (ms.map pairD) ∧ MarksOk cs (i + 1) ms) → D.nx σ' H') →
        2 ≤ sizeLine ∧ ∀ T, H8 T = none → ∃ l xs y, V.ref p = .ref l ∧ [V.ref T] = [y] ∧ upd H8 T (.tup [.int m, .int (i : Nat)]) l = some (.lst xs) ∧ xs.length < sizeLine ∧ D.nx [some (.ref z.S), some v, some (.ref p), some (.int (i : Nat)), some y0, some (.ref pf), o6, o7, some L, o9] (upd (upd H8 T (.tup [.int m, .int (i : Nat)])) l (.lst (xs ++ [y]))) := fun m H8 kp8 sw8 m0 m1 mn D o6 o7 L hD => ⟨two_le, fun T hT => by
      have h8 := kp8.k p _ nb hvs
      have h8' : upd H8 T (.tup [.int m, .int (i : Nat)]) p = some (.lst vs) := Ex.new hT _ _ h8
      have kp9 : Kp z.bar H (upd (upd H8 T (.tup [.int m, .int (i : Nat)])) p (.lst (vs ++ [.ref T]))) := ((kpq.trans kp8).trans (Kp.of (Ex.new hT))).mutp hp
      have hd8 := dtall_upd (o := .lst (vs ++ [.ref T])) ok.noLs h8' ((dtall_kp ok.noLs kp8 hdq).ex (Ex.new hT))
      refine ⟨p, vs, .ref T, rfl, rfl, h8', sz_lt (by rw [hds.len, List.length_map]; omega), hD _ _ ⟨⟨_, _, _, _, _, _, _, rfl⟩, kp9, ?_, hd8, (sw8.mono (Ex.new hT)).mutp nb nc, vs ++ [.ref T], ms ++ [(m, (i : Int))], upd_same, ?_, MO.step hc m0 m1 mn⟩⟩
      · exact (kp_lst h8').s (ex_t (Ex.new hT) (kp8.s hsq))
      · rw [List.map_append]
        refine dtall_upd (by rw [← List.map_append]; exact noLs_pairs _) h8' (((dtall_kp nds kp8 hds).ex (Ex.new hT)).app (.cons (.tup (SqT.of upd_same) (.cons (.int _) (.cons (.int _) .nil))) .nil))⟩
    refine drawq_go K (j := j + 2 * (10 - (i + 1))) rfl sw7 (by decide) (by decide) fun b H8 kp8 sw8 => ?_
    have kp38 := kp37.trans kp8
    have h8 := kp38.k p _ nb hvs
    have hd8 := dtall_kp nds kp38 hds
    have hf8 : H8 pf = some (.lst ((s0 :: SO').map V.int)) := kp8.k pf _ nbf (kp7.k pf _ nbf (e6 _ _ hf))
    have zero : ∀ {H9 : Hp} {Q : VK}, Ex H8 H9 → Q (.int s0) H9 → tOp (rIxL K) (tVar 5) (tC (V.int 0)) [some (.ref z.S), some v, some (.ref p), some (.int (i : Nat)), some y0, some (.ref pf), o6, o7, some (.int (16 * c.e - 1 - r)), o9] H9 Q := fun e q => ⟨_, rfl, pf, _, 0, .int s0, rfl, rfl, SqL.of (e _ _ hf8), atI_of (j := 0) rfl rfl, q⟩
    have s0m := hSOm s0 List.mem_cons_self
    cases b with
    | false =>
      refine zero (Ex.refl _) ⟨_, rfl, ?_⟩
      exact fin s0 H8 kp38 sw8 s0m.1 s0m.2.1 s0m.2.2 fun σ' H' h => h
    | true =>
      refine (td_test (K := K) (ed_niI (i := 16 * c.e - 1 - r) (evd_var rfl (.int _)) (efi h8 hd8) .l)) H8 (Ex.refl H8) _ fun H9 e9 => ?_
      by_cases hm : 16 * c.e - 1 - r ∈ ms.map Prod.fst
      · rw [decide_eq_true hm]
        refine zero e9 ⟨_, rfl, ?_⟩
        exact fin s0 H9 (kp38.trans (Kp.of e9)) (sw8.mono e9) s0m.1 s0m.2.1 s0m.2.2 fun σ' H' h => h
      · rw [decide_eq_false hm]
        refine ⟨_, rfl, _, rfl, ?_⟩
        exact fin (16 * c.e - 1 - r) H9 (kp38.trans (Kp.of e9)) (sw8.mono e9) (by omega) (by omega) hm fun σ' H' h => h
  · obtain ⟨⟨o3, o4, o5, o6, o7, o8, o9, rfl⟩, kpq, hsq, hdq, swq, vs, ms, hvs, hds, MO⟩ := q
    rw [xl] at MO swq
    dsimp only
    refine asg_go (cb1_go ?_)
    have ml : ms.length ≤ 10 := by rw [MO.len]; omega
    refine lc_sortP (K := K) (cs := ms) (fun _ => true) (fun d => match d with | .tuple [_, x] => x | _ => .none) (ev_var rfl) hvs hds MO.nd (by omega) (fun m hm H4 e4 => tkw_pair (fun _ _ => rfl) (fun v1 v2 H6 e6 h1 h2 => et_yes) (fun _ v1 v2 H6 e6 h1 h2 => evd_var rfl h2) fun _ => rfl) fun zs pz up p2 xs2 H6 e6 h6 hx6 => ?_
    · have ord := MO.ord pz up
      rw [fm_yes] at hx6
      have en : (zs.map pairD).map (fun d => match d with | .tuple [_, x] => x | _ => .none) = (zs.map Prod.snd).map PyData.int := by
        rw [List.map_map, List.map_map]
        exact List.map_congr_left fun m _ => rfl
      rw [en] at hx6
      refine ⟨p2, xs2, rfl, .inl ⟨SqL.of h6, fun l hl => ?_⟩⟩
      have e7 : Ex H3 (upd H6 l (.tup xs2)) := e6.trans (Ex.new hl)
      have hn : Dt K No (upd H6 l (.tup xs2)) (.ref l) (tupI (zs.map Prod.snd)) := .tup (SqT.of upd_same) (hx6.ex (Ex.new hl))
      have hv7 : Dt K No (upd H6 l (.tup xs2)) v (.tuple [dSorts ss, dCalls cs]) := (kp_noL hvt ok.noL kpq).ex e7
      have zl : (zs.map Prod.snd).length ≤ 10 := by rw [List.length_map, pz.length_eq]; exact ml
      have eo : orderIn cs (tupI (zs.map Prod.snd)) = true := (orderIn_ints be _).mpr ord
      have il : (itemsOf (tupI (zs.map Prod.snd))).length ≤ 10 := by
        show ((zs.map Prod.snd).map PyData.int).length ≤ 10
        rw [List.length_map]
        exact zl
      refine sd_ret (K := K) (d := .bool true) (evd_is (ed_and (a := true) (b := true) (evd_is (ed_isB (i := orderIn cs (tupI (zs.map Prod.snd))) (j := true) (ed_call (ead_cons (evd_var rfl hv7) (ead_cons (evd_var rfl hn) ead_nil)) ⟨ss, cs, _, ok, by omega, rfl, rfl⟩ rfl) ed_bl) (by rw [eo]; rfl)) fun _ => evd_is (ed_call (ead_cons (ed_ixT (i := 1) (d := dCalls cs) (evd_var rfl hv7) ed_int rfl) (ead_cons (evd_var rfl hn) ead_nil)) ⟨cs, _, be, by omega, by omega, rfl, rfl⟩ rfl) (by rw [eo])) rfl) fun u H8 e8 hu => ?_
      cases hu
      exact k H8 (kpq.trans (Kp.of (e7.trans e8))) (((swq.mono e7).mono e8).le (by omega))
end
end SB
end

section
set_option Elab.async false
set_option linter.all false
set_option maxRecDepth 100000
set_option maxHeartbeats 2000000
set_option autoImplicit false
/-! SbTry: several clauses except .. as n. -/
namespace SB
open PySem PySem.Spec PyProof.Rows L2
abbrev ASuite := Addr → Value → Option Addr → TS
/-- the ends within a clause: the name is gone behind it -/
def asEnds (i : Nat) (D : Ends) : Ends := { nx := fun σ' H' => D.nx (σ'.set i none) H', rt := D.rt, bk := fun σ' H' => D.bk (σ'.set i none) H', ct := fun σ' H' => D.ct (σ'.set i none) H' }
/-- what the clauses wish of an exception, one after the other -/
def wAsM (K : PySem.W.Frag) (i : Nat) (Wout : WX) (D : Ends) : List (Value × ASuite) → WX
  | [] => Wout
  | (c, ts) :: r => fun cls d σ H => ∃ b, PySem.W.exmOne K cls c = some b ∧ (b = true → ∀ a, H a = none → i < σ.length → ts a cls d (asEnds i D) (σ.set i (some (.ref a))) H) ∧ (b = false → wAsM K i Wout D r cls d σ H)
inductive AsOk (X : Cx) (n : Str) : List ExceptHandler → List (Value × ASuite) → Prop
  | nil : AsOk X n [] []
  | cons {x : Str} {c : Value} {ts : ASuite} {b₀ : Stmt} {suite : List Stmt} {np pos' : Pos} {hds : List ExceptHandler} {l : List (Value × ASuite)} (hc : Names X x c)
      (hsu : ∀ (a : Addr) (oe : Obj) (cls : Value) (d : Option Addr) (pn : List (Addr × Obj)), Zc cls d oe → (∃ vs, oe.data = .fields vs) → PSs (X.suite a ((a, oe) :: pn)) (b₀ :: suite) (ts a cls d)) (r : AsOk X n hds l) :
      AsOk X n (.ExceptHandler (some (.Name x np)) (some n) (b₀ :: suite) pos' :: hds) ((c, ts) :: l)
section
variable {X : Cx} {n : Str} {i : Nat} {body : List Stmt} {h₀ : ExceptHandler} {hds : List ExceptHandler} {l : List (Value × ASuite)} {pos : Pos} {tb : WX → TS} {Wout : WX}
theorem ps_try_asM (hs : X.stack = X.env :: X.outer) (hf : X.env.frame = some X.env.locals) (hN : X.N.Nodup) (hi : X.N[i]? = some n) (hln : X.env.kindOf n = some .local) (tk : Takes X Wout)
    (hb : ∀ (W : WX) (pn : List (Addr × Obj)) (xe : Value → Shared → Prop), Takes (X.tr pn xe) W → PassesOwn (model X.prog X.w) X.A X.env xe → PSs (X.tr pn xe) body (tb W))
    (hh : AsOk X n (h₀ :: hds) l) : PS X (.Try body (h₀ :: hds) [] [] pos) (fun D σ H => tb (wAsM X.K i Wout D l) D σ H) := by
  refine ⟨fun pins s σ H D I h => ?_⟩
  have ok := I.ok
  have hfr : X.A.frames = some (X.env :: X.outer) := by rw [ok.frames, hs]
  have hloc : Loc X.env.scope n := .inl hln
  refine wpAny_Try_except (wpAny_mono ((hb (wAsM X.K i Wout D l) (X.pn ++ pins) (fun e s₁ => wpAny (model X.prog X.w) X.A (noteFrame e X.env) (fun _ s₂ => wpAny (model X.prog X.w) X.A (setFlight e none) (fun _ s₃ =>
    wpAny (model X.prog X.w) X.A (handleBy e X.env (h₀ :: hds)) (SP X pins D) X.xe s₃) X.xe s₂) X.xe s₁) (fun u s' caught => ?_) PassesOwn.looking).run [] s σ H D (I.toTry _) h) (fun f s1 q => ?_) (fun e s1 q => q))
  · obtain ⟨a, B, sI, pins', σ', H', cls, d, rfl, J', nb, up, sky, na, os, ag, w⟩ := caught
    have J : Inv X pins σ' H' sI := J'.ofTry ok
    rw [hs] at sky
    show wpAny (model X.prog X.w) X.A (noteFrame (.ref a) X.env) _ _ _
    refine Sky.land Zc.steady hfr hf sky fun h3 fl3 up3 => ?_
    have J3 : Inv X pins σ' H' { s' with heap := h3 } := J.landed nb fl3.1 (up.trans up3) os ag
    obtain ⟨oe, vs, he, hz, hd⟩ := fl3.there
    have nfr : a ∉ frs (X.env :: X.outer) := fun hm => by
      obtain ⟨_, o', e', hnf⟩ := fl3.2.2.1.mem hm
      rw [he] at e'
      cases e'
      exact hnf _ hd
    have nL : a ≠ X.env.locals := fun z => nfr (List.mem_filterMap.mpr ⟨X.env, List.mem_cons_self, by rw [hf, z]⟩)
    have nF : a ∉ X.fs := fun hm => by
      obtain ⟨e, h1, h2⟩ := List.mem_filterMap.mp hm
      exact nfr (List.mem_filterMap.mpr ⟨e, List.mem_cons_of_mem _ h1, h2⟩)
    have S3 := J3.suite he hd na nL nF
    have LT : PySem.W.Looks (model X.prog X.w) h3 (typeOf (.ref a)) cls := fun A Q E s k q => wpAny_typeOf_ref (k _ _ he) (by rw [hz.1]; exact q)
    have step : ∀ {hs' : List ExceptHandler} {l' : List (Value × ASuite)}, AsOk X n hs' l' → wAsM X.K i Wout D l' cls d σ' H' → wpAny (model X.prog X.w) X.A (handleBy (.ref a) X.env hs') (SP X pins D) X.xe { s' with heap := h3 } := by
      intro hs' l' hk
      induction hk with
      | nil =>
        intro w
        refine wpAny_handleBy_nil ?_
        obtain ⟨_, _, _, oe', vs', T, oT, ts', he', hz', hd', h1, hr⟩ := id fl3
        unfold PySem.passOn
        refine wpAny_bind (wpAny_field he' hd' h1 ?_)
        rw [if_neg (show ¬ ((Value.ref T == Value.none) = true) from by simp)]
        have out : wpAny (model X.prog X.w) X.A (setFlight (.ref a) X.env.frame) (fun _ s4 => wpAny (model X.prog X.w) X.A (throw (.ref a) : Sem Flow) (SP X pins D) X.xe s4) X.xe { s' with heap := h3 } := by
          rw [hf]
          refine HandSPX.setFlight_upZ fl3 fun h4 hh4 up4 => wpAny_throw (tk _ _ ?_)
          exact ⟨a, B, sI, pins, σ', H', cls, d, rfl, J, nb, (up.trans up3).trans up4, .inr (.inr (by rw [hs]; exact hh4)), na, os, ag, w⟩
        first
          | exact wpAny_bind (wpAny_pure (wpAny_bind out))
          | exact wpAny_bind out
      | @cons x c ts b₀ suite np pos' hds2 l2 hc hsu r ih =>
        intro w
        obtain ⟨b, hb1, hyes, hno⟩ := w
        refine wpAny_handleBy_cons (codeAny_handlers_test ?_) (by intro q; cases q)
        have test : ∀ {Q : Value → Shared → Prop} {E : Value → Shared → Prop}, Q c { s' with heap := h3 } → wpAny (model X.prog X.w) (X.A.mark (some (.ref a))) (eval (.Name x np) X.env) Q E { s' with heap := h3 } := fun {Q E} q => by
          obtain ⟨hg, hdbg, hm | ⟨hm, hv, hnn⟩⟩ := hc
          · exact ld_glob (X := X.suite a ((a, oe) :: (X.pn ++ pins))) S3 hg hm q hdbg
          · exact ld_blt (X := X.suite a ((a, oe) :: (X.pn ++ pins))) S3 hg hm hv q hnn hdbg
        refine test ((PySem.W.exm_one (M := model X.prog X.w) J3.kIn LT hb1).here ?_)
        cases b with
        | false =>
          show wpAny _ X.A (handleBy (.ref a) X.env hds2) _ _ _
          exact ih (hno rfl)
        | true =>
          refine codeAny_handlers_suite_as (HandSPX.lands_againZ fl3 fun h4 fl4 up4 => ?_)
          have J4 : Inv X pins σ' H' { s' with heap := h4 } := J.landed nb fl4.1 ((up.trans up3).trans up4) os ag
          obtain ⟨oe4, vs4, he4, hz4, hd4⟩ := fl4.there
          refine store_ok (X := X.suite a ((a, oe4) :: (X.pn ++ pins))) (v := .ref a) (J4.suite he4 hd4 na nL nF) hN hi hloc rfl (fun s5 S5 => ?_) (.inr hln)
          refine wpAny_mono ((hsu a oe4 cls d (X.pn ++ pins) hz4 ⟨_, hd4⟩).run [] s5 _ H' _ S5 (hyes rfl a na (by rw [J.len]; exact (List.getElem?_eq_some_iff.mp hi).1))) (fun f s6 q => ?_) (fun _ _ z => False.elim z)
          have end_ : ∀ {σ6 : L2.St} {H6 : Hp} {Q : Shared → Prop}, Inv (X.suite a ((a, oe4) :: (X.pn ++ pins))) [] σ6 H6 s6 → (∀ s7, Inv X pins (σ6.set i none) H6 s7 → Q s7) →
              wpAny (model X.prog X.w) X.A (do bindName X.env n .none; unbindBehindTheSuite X.env n pos') (fun _ s7 => Q s7) X.xe s6 := fun {σ6 H6 Q} S6 hq => gone_ok (S6.unsuite ok) hN hi hln hq
          cases f with
          | next =>
            obtain ⟨σ6, H6, S6, q6⟩ := q
            exact end_ S6 fun s7 J7 => ⟨_, _, J7, q6⟩
          | brk =>
            obtain ⟨σ6, H6, S6, q6⟩ := q
            exact end_ S6 fun s7 J7 => ⟨_, _, J7, q6⟩
          | cont =>
            obtain ⟨σ6, H6, S6, q6⟩ := q
            exact end_ S6 fun s7 J7 => ⟨_, _, J7, q6⟩
          | ret u =>
            obtain ⟨v6, σ6, H6, S6, r6, q6⟩ := q
            exact end_ S6 fun s7 J7 => ⟨_, _, _, J7, r6, q6⟩
    exact step hh w
  · cases f with
    | next =>
      obtain ⟨σ', H', J', q⟩ := q
      exact wpAny_execs_nil ⟨σ', H', J'.ofTry ok, q⟩
    | brk =>
      obtain ⟨σ', H', J', q⟩ := q
      exact ⟨σ', H', J'.ofTry ok, q⟩
    | cont =>
      obtain ⟨σ', H', J', q⟩ := q
      exact ⟨σ', H', J'.ofTry ok, q⟩
    | ret u =>
      obtain ⟨v, σ', H', J', r, q⟩ := q
      exact ⟨v, σ', H', J'.ofTry ok, r, q⟩
end
end SB
end

section
set_option Elab.async false
set_option linter.all false
set_option maxRecDepth 100000
set_option maxHeartbeats 2000000
set_option autoImplicit false
/-! SbHeard: what is heard of a lambda. -/
namespace SB
open PySem PySem.Spec PyProof.Rows L2 Evl LamX
abbrev s__law_heard : Stmt := topS 62
abbrev N__law_heard : List Str := ["_law_call", "error"]
theorem sc__law_heard : FnScope N__law_heard ["_law_call"] (C8.fnScope s__law_heard) := C8.fnScope_by (by decide +kernel)
/-- the own errors, what is told of them -/
def errs (A0 : Ad) : List (Addr × Str) := [(A0.cH, "history"), (A0.cL, "lot"), (A0.cT, "thing")]
def EH (A0 : Ad) (Q : VK) : XK := fun cls d H' => ∃ C nm y dd, (C, nm) ∈ errs A0 ∧ cls = .ref C ∧ d = some dd ∧ XGiv dd y H' ∧ ∀ p, H' p = none → Q (.ref p) (upd H' p (.tup [.str nm, y]))
def TTh (A0 : Ad) : (XK → Hp → VK → Prop) → Hp → VK → Prop := fun tl H Q => tl (EH A0 Q) H fun v H1 => 1 ≤ sizeLine ∧ ∀ p, H1 p = none → Q (.ref p) (upd H1 p (.lst [v]))
section
variable {K : PySem.W.Frag} {w : World} {mg : Str → Option Value} {A0 : Ad}
/-- a suite: return (nm, error.given) -/
def tsH (C : Addr) (nm : Str) : ASuite := fun a cls d => tRet (tTup (tCons (tC (.str nm)) (tCons (tXf a cls d C "given" (tVar 1)) tNil)))
theorem heard_gives {X : Cx} {q : Str} {g : Addr} {cdg : Value} (T : Tx A0 X.K w X.mg) : GivesTo X N__law_heard "_law_heard" (C8.fnScope s__law_heard) g cdg (C8.fnBody s__law_heard) "_law_call" q (TTh A0) := by
  intro f c' s H Q tl act hc h
  refine ⟨_, pss_one (ps_try_asM (X := (cxOf C8.CX0 X.prog X.w X.K X.mg X.base N__law_heard "_law_heard" (C8.fnScope s__law_heard) g cdg X.A X.stack s H C8.E0).nox) (n := "error") (i := 1) (Wout := fun _ _ _ _ => False) (l := [(.ref A0.cH, tsH A0.cH "history"), (.ref A0.cL, tsH A0.cL "lot"), (.ref A0.cT, tsH A0.cT "thing")])
      (tb := fun W D σ H => ∃ Ech : XK, (∀ cls d σ' H', Ech cls d H' → W cls d σ' H') ∧ σ[0]? = some (some (.ref f)) ∧ H c' = some (CodeO c' q) ∧ tl Ech H fun v H1 => 1 ≤ sizeLine ∧ ∀ p, H1 p = none → D.rt (.ref p) (upd H1 p (.lst [v])))
      rfl rfl sc__law_heard.nd rfl rfl L2.takes0 (fun W pn xe tk _ => ?hb) ?hh), ?fin⟩
  case hb =>
    refine ⟨fun pins s' σ H' D I h' => ?_⟩
    obtain ⟨Ech, hW, h1, h2, h3⟩ := h'
    exact (pss_one (ps_ret (pe_lst (pa_cons (act W pn xe Ech _ _ tk hW) pa_nil)))).run pins s' σ H' D I ⟨h1, h2, h3⟩
  case hh =>
    have suite : ∀ {x : Str} {C fi : Addr} {st : Stmt} {nm : Str} (E : Er X.K X.mg x C fi st) (a : Addr) (oe : Obj) (cls : Value) (d : Option Addr) (pn : List (Addr × Obj)), Zc cls d oe → (∃ vs, oe.data = .fields vs) → ∀ {p1 p2 p3 p4 p5 : Pos} {j k : Nat},
        PSs ((cxOf C8.CX0 X.prog X.w X.K X.mg X.base N__law_heard "_law_heard" (C8.fnScope s__law_heard) g cdg X.A X.stack s H C8.E0).nox.suite a ((a, oe) :: pn)) [.Return (some (.Tuple [.Constant (.str nm) j p1, .Attribute (.Name "error" p2) "given" p3] k p4)) p5] (tsH C nm a cls d) := fun E a oe cls d pn hz hf => pss_one (ps_ret (pe_tup (pa_cons pe_str (pa_cons (pe_xf E.xf E.no hz hf (pe_var (i := 1) rfl (.inl rfl))) pa_nil))))
    exact .cons ⟨rfl, by decide, .inl T.eH.gC⟩ (fun a oe cls d pn hz hf => suite T.eH a oe cls d pn hz hf) (.cons ⟨rfl, by decide, .inl T.eL.gC⟩ (fun a oe cls d pn hz hf => suite T.eL a oe cls d pn hz hf) (.cons ⟨rfl, by decide, .inl T.eT.gC⟩ (fun a oe cls d pn hz hf => suite T.eT a oe cls d pn hz hf) .nil))
  case fin =>
    refine ⟨EH A0 Q, fun cls d σ' H' hE => ?_, rfl, hc, h⟩
    obtain ⟨C, nm, y, dd, hm, rfl, rfl, hg, hQ⟩ := hE
    have put : ∀ a, H' a = none → 1 < σ'.length → tsH C nm a (.ref C) (some dd) (asEnds 1 { nx := fun _ H' => Q .non H', rt := Q }) (σ'.set 1 (some (.ref a))) H' := fun a ha hs => ret_go ⟨_, List.getElem?_set_self hs, rfl, rfl, dd, _, y, rfl, hg, rfl, two_le, fun p hp => hQ p hp⟩
    unfold errs at hm
    simp only [List.mem_cons, List.not_mem_nil, or_false, Prod.mk.injEq] at hm
    rcases hm with ⟨rfl, rfl⟩ | ⟨rfl, rfl⟩ | ⟨rfl, rfl⟩
    · exact ⟨true, T.mHH, fun _ => put, fun z => nomatch z⟩
    · exact ⟨false, T.mLH, (fun z => nomatch z), fun _ => ⟨true, T.mLL, fun _ => put, fun z => nomatch z⟩⟩
    · exact ⟨false, T.mTH, (fun z => nomatch z), fun _ => ⟨false, T.mTL, (fun z => nomatch z), fun _ => ⟨true, T.mTT, fun _ => put, fun z => nomatch z⟩⟩⟩
end
end SB
end

section
set_option Elab.async false
set_option linter.all false
set_option maxRecDepth 100000
set_option maxHeartbeats 2000000
set_option autoImplicit false
/-! SbRepr: repr of data. -/
namespace SB
open PySem PySem.Spec PyProof.Rows L2 Evl
/-- data whose text is short -/
structure Rp (n k : Nat) (d : PyData) : Prop where
  bulk : d.bulk ≤ n
  depth : d.depth ≤ k
  show_ : d.showable = true
  short : d.leavesShort 40 = true
theorem Rp.up {n k n' k' : Nat} {d : PyData} (h : Rp n k d) (hn : n ≤ n') (hk : k ≤ k') : Rp n' k' d := ⟨Nat.le_trans h.bulk hn, Nat.le_trans h.depth hk, h.show_, h.short⟩
theorem rpAll {n k : Nat} : ∀ {ds : List PyData}, (∀ d ∈ ds, Rp n k d) → PyData.bulkAll ds ≤ ds.length * (n + 1) ∧ PyData.depthAll ds ≤ k ∧ PyData.showableAll ds = true ∧ PyData.leavesShortAll 40 ds = true
  | [], _ => ⟨Nat.zero_le _, Nat.zero_le _, rfl, rfl⟩
  | d :: r, h => by
    obtain ⟨h1, h2, h3, h4⟩ := rpAll (ds := r) fun e he => h e (List.mem_cons_of_mem _ he)
    have q := h d List.mem_cons_self
    refine ⟨?_, ?_, ?_, ?_⟩
    · have e1 := q.bulk
      rw [List.length_cons, Nat.succ_mul]
      simp only [PyData.bulkAll]
      omega
    · have e1 := q.depth
      simp only [PyData.depthAll]
      omega
    · simp only [PyData.showableAll, q.show_, h3, Bool.and_self]
    · simp only [PyData.leavesShortAll, q.short, h4, Bool.and_self]
theorem Rp.tuple {n k m : Nat} {ds : List PyData} (h : ∀ d ∈ ds, Rp n k d) (hl : ds.length ≤ m) : Rp (m * (n + 1)) (k + 1) (.tuple ds) := by
  obtain ⟨h1, h2, h3, h4⟩ := rpAll h
  refine ⟨?_, ?_, ?_, ?_⟩
  · simp only [PyData.bulk]
    exact Nat.le_trans h1 (Nat.mul_le_mul_right _ hl)
  · simp only [PyData.depth]
    omega
  · simp only [PyData.showable, h3]
  · simp only [PyData.leavesShort, h4]
theorem Rp.list {n k m : Nat} {ds : List PyData} (h : ∀ d ∈ ds, Rp n k d) (hl : ds.length ≤ m) : Rp (m * (n + 1)) (k + 1) (.list ds) := by
  obtain ⟨h1, h2, h3, h4⟩ := rpAll h
  refine ⟨?_, ?_, ?_, ?_⟩
  · simp only [PyData.bulk]
    exact Nat.le_trans h1 (Nat.mul_le_mul_right _ hl)
  · simp only [PyData.depth]
    omega
  · simp only [PyData.showable, h3]
  · simp only [PyData.leavesShort, h4]
theorem Rp.size {n k : Nat} {d : PyData} (h : Rp n k d) (hn : n ≤ 300000) : d.shown.length ≤ sizeLine := by
  have := PyData.shown_le_bulk 40 (by decide) d h.short
  have hb := h.bulk
  have : 42 * d.bulk ≤ 42 * n := Nat.mul_le_mul_left _ hb
  rw [sizeLine_eq]
  omega
/-- a list or a tuple -/
def isSeq : PyData → Bool
  | .list _ | .tuple _ => true
  | _ => false
/-- repr(x), x a list or a tuple of data -/
def rRepr (K : PySem.W.Frag) : List V → Hp → VK → Prop := fun vs H Q => ∃ v d n, vs = [v] ∧ Dt K No H v d ∧ isSeq d = true ∧ Rp n 60 d ∧ n ≤ 300000 ∧ (d.hasDict = false ∨ noL d = true) ∧ Q (.str d.shown) H
section
variable {X : Cx}
theorem cr_repr (hg : X.A.guards = some []) (hu : X.A.units + 65 < cLine) : CallR X (.builtin "repr") (rRepr X.K) := by
  intro pins s σ H vs us Q I r h
  obtain ⟨v, d, n, rfl, hd, hq, hr, hn, hm, q⟩ := h
  obtain ⟨u, rfl, ru⟩ := vals1 r
  obtain ⟨a, rfl⟩ : ∃ a, v = .ref a := by
    cases hd <;> first | exact ⟨_, rfl⟩ | cases hq
  cases ru
  obtain ⟨as, rd, hs⟩ := Dt.reads I d _ _ hd rfl
  have dp := hr.depth
  refine repr_of_reads' rd hr.show_ (fun z => ?_) hg (by omega) (fun _ _ e => e) (fun h' u' tk hk => ⟨.str d.shown, H, I.kept (t' := tk) hk, ⟨_, rfl⟩, q⟩) (hr.size hn)
  rcases hm with hm | hm
  · rw [hm] at z
    cases z
  · exact hs hm
end
section
variable {K : PySem.W.Frag} {σ : L2.St} {H : Hp} {te : TE}
theorem ed_repr {d : PyData} {n : Nat} (h : EvD K te σ H d) (hq : isSeq d = true) (hr : Rp n 60 d) (hn : n ≤ 300000) (hm : d.hasDict = false ∨ noL d = true) : EvD K (tCB (rRepr K) (tCons te tNil)) σ H (.str d.shown) := fun H1 e Q q =>
  h H1 e _ fun v H2 e2 hv => ⟨v, d, n, rfl, hv, hq, hr, hn, hm, q _ H2 e2 (.str _)⟩
end
/-- ints, texts -/
theorem rp_int {i : Int} (h1 : -999999999999 ≤ i) (h2 : i ≤ 999999999999) : Rp 0 0 (.int i) := by
  refine ⟨Nat.le_refl _, Nat.le_refl _, ?_, ?_⟩
  · simp only [PyData.showable, decide_eq_true_eq]
    have : i.natAbs < 2 ^ 40 := by omega
    by_cases h0 : i.natAbs = 0
    · rw [h0]
      decide
    · have := (Nat.log2_lt h0).mpr this
      omega
  · have := PyData.shown_int_le2 h1 h2
    simp only [PyData.leavesShort, decide_eq_true_eq]
    omega
theorem rp_none : Rp 0 0 .none := ⟨Nat.le_refl _, Nat.le_refl _, rfl, rfl⟩
theorem rp_bool (b : Bool) : Rp 0 0 (.bool b) := ⟨Nat.le_refl _, Nat.le_refl _, rfl, rfl⟩
end SB
end

section
set_option Elab.async false
set_option linter.all false
set_option maxRecDepth 100000
set_option maxHeartbeats 2000000
set_option autoImplicit false
/-! SbG: defs that ask for the guards; tables of code objects stay. -/
namespace SB
open PySem PySem.Spec PyProof.Rows L2 Evl LamX
/-- a def of the text under its name, its code object at c -/
structure DFc (K : PySem.W.Frag) (mg : Str → Option Value) (x : Str) (st : Stmt) (ps : List Str) (c : Addr) : Prop where
  ex : ∃ (f : Addr) (fd : FuncData), C8.Def K mg x st f fd ∧ Binds K fd ps [] ∧ fd.code = .ref c
/-- a def that is called where no repr is under way -/
structure FnG (P : Program) (w : World) (K : PySem.W.Frag) (mg : Str → Option Value) (base : Heap) (k : Nat) (f : Addr) (fd : FuncData) (ps : List Str) (sp : Sp) : Prop where
  len : ∀ vs H Q E, sp vs H Q E → vs.length = ps.length
  run : ∀ (A : Around) (outer : List Env) (s : Shared) (H : Hp) (args : Args) (us : List Value) (vs : List V) (Q : VK) (E : XK), Room k A → A.guards = some [] → Env0 P w K mg base A outer s H → BindsTo s fd args (ps.zip us) → Vals vs us → sp vs H Q E →
    codeAny (model P w) A (.call (.ref f) args) (CR C8.CX0 outer P w H s Q E) s
structure CalG (P : Program) (w : World) (K : PySem.W.Frag) (mg : Str → Option Value) (base : Heap) (k : Nat) (x : Str) (sp : Sp) : Prop where
  ex : ∃ (f : Addr) (fd : FuncData) (ps : List Str), FnG P w K mg base k f fd ps sp ∧ mg x = some (.ref f) ∧ PySem.W.keepIn K (.ref f) = true ∧ Binds K fd ps []
section
variable {P : Program} {w : World} {K : PySem.W.Frag} {mg : Str → Option Value} {base : Heap}
theorem fnG_of {x : Str} {st : Stmt} {f : Addr} {fd : FuncData} {c : Addr} {N ps : List Str} {k : Nat} {sp : Sp} (F : C8.Fun K x x st f fd) (hc : fd.code = .ref c) (S : FnScope N ps (C8.fnScope st)) (len : ∀ vs H Q E, sp vs H Q E → vs.length = ps.length)
    (hbody : ∀ (A : Around) (outer : List Env) (s : Shared) (H : Hp) (vs : List V) (Q : VK) (E : XK), Room k (A.deeper (envOfC x (C8.fnScope st) s.heap.objs.size f (.ref c))) → A.guards = some [] → sp vs H Q E →
      ∃ t, PSs (cxOf C8.CX0 P w K mg base N x (C8.fnScope st) f (.ref c) A outer s H E).nox (C8.fnBody st) t ∧ t { nx := fun _ H' => Q .non H', rt := Q } (L2.start N vs) H) : FnG P w K mg base (k + 1) f fd ps sp := by
  obtain ⟨oc, od, dV, kV, doc, pm, an, cdv, ct, osl, rfl, lk, hcd⟩ := F.ex
  have hc : cdv = .ref c := hc
  subst hc
  refine ⟨len, fun A outer s H args us vs Q E hr hg e0 hb r h => run_ofS lk hcd S hr e0 hb r (len _ _ _ _ h) fun hr' => ?_⟩
  obtain ⟨t, ht, hq⟩ := hbody A outer s H vs Q E hr' hg h
  exact ⟨t, ht.nox, hq⟩
theorem calG_of {x : Str} {st : Stmt} {c : Addr} {N ps : List Str} {k : Nat} {sp : Sp} (D : DFc K mg x st ps c) (S : FnScope N ps (C8.fnScope st)) (len : ∀ vs H Q E, sp vs H Q E → vs.length = ps.length)
    (hbody : ∀ (f : Addr) (A : Around) (outer : List Env) (s : Shared) (H : Hp) (vs : List V) (Q : VK) (E : XK), Room k (A.deeper (envOfC x (C8.fnScope st) s.heap.objs.size f (.ref c))) → A.guards = some [] → sp vs H Q E →
      ∃ t, PSs (cxOf C8.CX0 P w K mg base N x (C8.fnScope st) f (.ref c) A outer s H E).nox (C8.fnBody st) t ∧ t { nx := fun _ H' => Q .non H', rt := Q } (L2.start N vs) H) : CalG P w K mg base (k + 1) x sp := by
  obtain ⟨f, fd, F, b, hc⟩ := D.ex
  exact ⟨f, fd, ps, fnG_of F.fn hc S len (hbody f), F.mgf, F.kp, b⟩
end
section
variable {X : Cx} {k j : Nat} {x : Str} {sp : Sp} {p pos : Pos} {e : Expr} {es : List Expr} {t : TA}
theorem pe_cG (c : CalG X.prog X.w X.K X.mg X.base k x sp) (hr : Room j X.A) (hgd : X.A.guards = some []) (hk : k ≤ j) (hg : Gl X x) (ha : PA X (e :: es) t)
    (hdb : (x == ("__debug__" : Str)) = false := by decide) (he : starEach (e :: es) X.env = (false, eval e X.env) :: starEach es X.env := by rfl) (hpl : (backTo pos (starEach es X.env)).any (·.1) = false := by rfl) :
    PE X (.Call (.Name x p) (e :: es) [] pos) (tCall sp [] C8.E0 t) := by
  obtain ⟨f, fd, ps, F, hm, kp, b⟩ := c.ex
  refine ⟨fun pins s σ H Q I h => ?_⟩
  refine wpAny_Call_Name_kw (ld_glob I hg hm ?_ hdb)
  refine PySem.W.callWith_K (h₀ := X.base) I.ok.mod.kin kp (thn (ha.run pos pins s σ H _ I h) fun us s1 ⟨vs, H1, I1, r, q⟩ => ⟨I1.kIn, ?_⟩) he hpl
  have q : sp (vs ++ []) H1 Q C8.E0 := q
  rw [List.append_nil] at q
  have hl : us.length = ps.length := by rw [← r.length]; exact F.len _ _ _ _ q
  have hb := b s1 us I1.kIn (by rw [List.append_nil]; exact hl)
  rw [List.append_nil] at hb
  refine wpAny_call (codeAny_mono (F.run X.A X.stack s1 H1 ⟨us, []⟩ us vs Q C8.E0 (hr.mono hk) hgd I1.env0 hb r q) fun rr s' hq => ?_)
  cases rr with
  | error e => exact (show False from hq).elim
  | ok fl =>
    cases fl with
    | ret u => exact I1.after hq
    | next => exact False.elim hq
    | brk => exact False.elim hq
    | cont => exact False.elim hq
end
/-! ### what stays where tables grow -/
section
variable {K : PySem.W.Frag} {B : Addr → Prop} {H H' H1 : Hp} {T : List (Addr × Str)} {z : Sp3}
theorem extn_ex (e : Ex H H') : ExtN H H' := ExtN.of e
theorem extn_t {a : Addr} {xs : List V} (x : ExtN H H') (h : SqT K H a xs) : SqT K H' a xs := by
  rcases h with (h | ⟨o, h⟩) | h
  · exact .inl (.inl (x _ _ h fun _ z => by cases z))
  · exact .inl (.inr ⟨o, x _ _ h fun _ z => by cases z⟩)
  · exact .inr h
mutual
theorem Dt.extn (x : ExtN H H') : ∀ (d : PyData) (v : V), Dt K B H v d → Dt K B H' v d
  | .none, _, h => by
    cases h
    exact .non
  | .bool b, _, h => by
    cases h
    exact .bl b
  | .int i, _, h => by
    cases h
    exact .int i
  | .str s, _, h => by
    cases h
    exact .str s
  | .list ds, _, h => by
    cases h with
    | lst h1 h2 h3 => exact .lst (x _ _ h1 fun _ z => by cases z) h2 (DtAll.extn x ds _ h3)
  | .tuple ds, _, h => by
    cases h with
    | tup h1 h3 => exact .tup (extn_t x h1) (DtAll.extn x ds _ h3)
  | .dict _, _, h => by
    cases h with
    | emp h => exact .emp (x _ _ h fun _ z => by cases z)
theorem DtAll.extn (x : ExtN H H') : ∀ (ds : List PyData) (vs : List V), DtAll K B H vs ds → DtAll K B H' vs ds
  | [], _, h => by
    cases h
    exact .nil
  | d :: ds, _, h => by
    cases h with
    | cons h1 h2 => exact .cons (Dt.extn x d _ h1) (DtAll.extn x ds _ h2)
end
theorem Dt.en {v : V} {d : PyData} (h : Dt K B H v d) (x : ExtN H H') : Dt K B H' v d := Dt.extn x d v h
theorem SW.en {j : Nat} (s : SW z H j) (x : ExtN H H') : SW z H' j := by
  obtain ⟨cs, ls, at_, h1, h2, h3, h⟩ := s.ex
  exact ⟨⟨cs, ls, at_, x _ _ h1 (fun _ z => by cases z), x _ _ h2 (fun _ z => by cases z), x _ _ h3 (fun _ z => by cases z), h⟩, s.ne⟩
theorem Grow.en {p : Addr} {ds : List PyData} (g : Grow K z p ds H) (x : ExtN H H') : Grow K z p ds H' := by
  obtain ⟨vs, h1, h2⟩ := g.h
  exact ⟨g.nb, g.nc, vs, x _ _ h1 (fun _ z => by cases z), DtAll.extn x ds vs h2⟩
theorem tabs_ex (t : Tabs T H) (e : Ex H H') : Tabs T H' := t.ext e
theorem tabs_kp {j : Nat} (t : Tabs T H) (sw : SW z H j) (x : Kp z.bar H H') : Tabs T H' := fun p hp => by
  obtain ⟨ps, h1, h2, h3⟩ := t p hp
  obtain ⟨cs, ls, at_, g1, g2, g3, _⟩ := sw.ex
  have keep : ∀ b o, H b = some o → (∀ a c n, o ≠ stD a c n) → (∀ xs, o ≠ .lst xs) → H' b = some o := fun b o hb n1 n2 => x.k b o (fun hbar => by
    rcases hbar with e | e
    · rw [e, g1] at hb
      exact n1 _ _ _ (Option.some.inj hb).symm
    · rw [e, g3] at hb
      exact n2 _ (Option.some.inj hb).symm) hb
  refine ⟨ps, keep _ _ h1 (fun a c n z => by cases z) (fun xs z => by cases z), h2, fun pos cv hc => ?_⟩
  obtain ⟨c, e1, e2⟩ := h3 pos cv hc
  exact ⟨c, e1, keep _ _ e2 (fun a c n z => by unfold CodeO stD at z; cases z) (fun xs z => by unfold CodeO at z; cases z)⟩
/-- data without lists stays -/
def Keep (K : PySem.W.Frag) (H H' : Hp) : Prop := ∀ v d, noL d = true → Dt K No H v d → Dt K No H' v d
theorem Keep.refl (H : Hp) : Keep K H H := fun _ _ _ h => h
theorem Keep.trans (a : Keep K H H1) (b : Keep K H1 H') : Keep K H H' := fun v d n h => b v d n (a v d n h)
theorem Keep.kp (x : Kp B H H') : Keep K H H' := fun v d n h => kp_noL h n x
theorem Keep.ex (x : Ex H H') : Keep K H H' := fun v d _ h => h.ex x
theorem Keep.en (x : ExtN H H') : Keep K H H' := fun v d _ h => h.en x
end
end SB
end

section
set_option Elab.async false
set_option linter.all false
set_option maxRecDepth 100000
set_option maxHeartbeats 2000000
set_option autoImplicit false
/-! SbLam: a lambda that is heard. -/
namespace SB
open PySem PySem.Spec PyProof.Rows L2 Evl LamX
/-- where the code objects of the makers of lambdas stand, and their tables -/
structure Us where
  (cl pl ct pt cw pw : Addr)
def tabsOf (u : Us) : List (Addr × Str) := [(u.pl, "_law_lots_good.<locals>.<lambda>"), (u.pt, "_law_things_good.<locals>.<lambda>"), (u.pw, "law.<locals>.<lambda>")]
structure Ux (K : PySem.W.Frag) (mg : Str → Option Value) (base : Heap) (u : Us) : Prop where
  lots : DFc K mg "_law_lots_good" (topS 66) ["_law_state", "_law_history_here"] u.cl
  things : DFc K mg "_law_things_good" (topS 67) ["_law_history_here"] u.ct
  tl : TabB base mg u.cl u.pl
  tt : TabB base mg u.ct u.pt
  tw : TabB base mg u.cw u.pw
  n1 : u.pl ≠ u.pt
  n2 : u.pl ≠ u.pw
  n3 : u.pt ≠ u.pw
section
variable {X : Cx} {A0 : Ad} {w : World} {u : Us} {K : PySem.W.Frag} {mg : Str → Option Value} {base : Heap}
theorem hu_l (U : Ux K mg base u) : ∀ p ∈ tabsOf u, p.1 = u.pl → p.2 = "_law_lots_good.<locals>.<lambda>" := fun p hp e => by
  unfold tabsOf at hp
  simp only [List.mem_cons, List.not_mem_nil, or_false] at hp
  rcases hp with rfl | rfl | rfl
  · rfl
  · exact absurd e.symm U.n1
  · exact absurd e.symm U.n2
theorem hu_t (U : Ux K mg base u) : ∀ p ∈ tabsOf u, p.1 = u.pt → p.2 = "_law_things_good.<locals>.<lambda>" := fun p hp e => by
  unfold tabsOf at hp
  simp only [List.mem_cons, List.not_mem_nil, or_false] at hp
  rcases hp with rfl | rfl | rfl
  · exact absurd e U.n1
  · rfl
  · exact absurd e.symm U.n3
theorem hu_w (U : Ux K mg base u) : ∀ p ∈ tabsOf u, p.1 = u.pw → p.2 = "law.<locals>.<lambda>" := fun p hp e => by
  unfold tabsOf at hp
  simp only [List.mem_cons, List.not_mem_nil, or_false] at hp
  rcases hp with rfl | rfl | rfl
  · exact absurd e U.n2
  · exact absurd e U.n3
  · rfl
theorem pe_heard {Tb : List (Addr × Str)} {c P : Addr} {k : Nat} {params : Arguments} {body : Expr} {scope : Scope} {t : XK → TE} {p lpos pos : Pos} (T : Tx A0 X.K w X.mg) (hg : Gl X "_law_heard") (TB : TabB X.base X.mg c P) (hcode : X.env.code = .ref c)
    (hmT : (P, X.env.qual ++ "<lambda>") ∈ Tb) (hu : ∀ p ∈ Tb, p.1 = P → p.2 = X.env.qual ++ "<lambda>") (hr : Room (k + 2) X.A) (L : LamS X.env.scope scope) (hdef : defaultsOf params X.env = ([], []))
    (hbind : ∀ (q : Str) (cl : List (Str × Addr)) (pm cv ctv : Value), bindArgs (PySem.W.kla_fn "<lambda>" q params body scope cl pm cv ctv) ⟨[], []⟩ = pure [])
    (hbody : ∀ (A : Around) (outer : List Env) (s : Shared) (H : Hp) (E : XK) (f c' : Addr), Room k (A.deeper (lamEnv X scope s.heap.objs.size f c')) → PE (lamCx X A outer s H E scope f c') body (t E)) :
    PE X (.Call (.Name "_law_heard" p) [.Lambda params body scope lpos] [] pos) (tLam Tb (TTh A0) t) := by
  obtain ⟨g, fd, F, b⟩ := T.d__law_heard.ex
  obtain ⟨oc, od, dV, kV, doc, pm, an, cdv, ct, osl, rfl, lk, hcd⟩ := F.fn.ex
  exact pe_lamcall hg F.mgf F.kp lk hcd b sc__law_heard rfl (.inl rfl) (heard_gives T) TB hcode hmT hu hr L hdef hbind hbody
end
end SB
end

section
set_option Elab.async false
set_option linter.all false
set_option maxRecDepth 100000
set_option maxHeartbeats 2000000
set_option autoImplicit false
/-! SbRp: what is shown is short; a lambda is heard, told by data. -/
namespace SB
open PySem PySem.Spec PyProof.Rows L2 Evl LamX
theorem hasDictAll_app : ∀ (as bs : List PyData), PyData.hasDictAll (as ++ bs) = (PyData.hasDictAll as || PyData.hasDictAll bs)
  | [], bs => by simp [PyData.hasDictAll]
  | a :: as, bs => by
    rw [List.cons_append]
    simp only [PyData.hasDictAll, hasDictAll_app as bs, Bool.or_assoc]
theorem hasDictAll_of {ds : List PyData} (h : ∀ d ∈ ds, d.hasDict = false) : PyData.hasDictAll ds = false := by
  induction ds with
  | nil => rfl
  | cons d r ih =>
    simp only [PyData.hasDictAll, h d List.mem_cons_self, ih fun e he => h e (List.mem_cons_of_mem _ he), Bool.or_self]
theorem hasDict_ints (ns : List Int) : PyData.hasDictAll (ns.map PyData.int) = false := hasDictAll_of fun d hd => by
  obtain ⟨i, _, rfl⟩ := List.mem_map.mp hd
  rfl
/-- shown well -/
structure Sh (n k : Nat) (d : PyData) : Prop where
  rp : Rp n k d
  nd : d.hasDict = false ∨ noL d = true
theorem odd_sh : ∀ d ∈ oddL, Rp 20 2 d ∧ (d.hasDict = false ∨ noL d = true) := by
  have h : ∀ d ∈ oddL, d.bulk ≤ 20 ∧ d.depth ≤ 2 ∧ d.showable = true ∧ d.leavesShort 40 = true ∧ (d.hasDict = false ∨ noL d = true) := by decide +kernel
  intro d hd
  obtain ⟨h1, h2, h3, h4, h5⟩ := h d hd
  exact ⟨⟨h1, h2, h3, h4⟩, h5⟩
theorem tw0_sh {d : PyData} (h : Tw0 d) : Rp 20 2 d ∧ (d.hasDict = false ∨ noL d = true) := by
  rcases h with h | ⟨i, rfl, h1, h2⟩
  · exact odd_sh d h
  · exact ⟨(rp_int (by omega) (by omega)).up (by omega) (by omega), .inl rfl⟩
theorem rp_ints {ns : List Int} (h : ∀ i ∈ ns, -999999999999 ≤ i ∧ i ≤ 999999999999) {m : Nat} (hl : ns.length ≤ m) : Rp (m * 1) 1 (tupI ns) := by
  refine Rp.tuple (n := 0) (k := 0) (fun d hd => ?_) (by rw [List.length_map]; exact hl)
  obtain ⟨i, hi, rfl⟩ := List.mem_map.mp hd
  exact rp_int (h i hi).1 (h i hi).2
theorem tw_sh {d : PyData} (h : Tw d) : Sh 1000 9 d := by
  rcases h with h | ⟨ms, rfl, hl, hm⟩ | ⟨ms1, ms2, e, rfl, hl, he, hm⟩
  · have q := tw0_sh h
    exact ⟨q.1.up (by omega) (by omega), q.2⟩
  · exact ⟨(rp_ints (fun i hi => by have := hm i hi; omega) hl).up (by omega) (by omega), .inl (hasDict_ints ms)⟩
  · have q := tw0_sh he
    refine ⟨(Rp.tuple (n := 20) (k := 2) (m := 21) (fun d hd => ?_) (by simp only [List.length_append, List.length_map, List.length_cons, List.length_nil]; omega)).up (by omega) (by omega), ?_⟩
    · rcases List.mem_append.mp hd with hd | hd
      · rcases List.mem_append.mp hd with hd | hd
        · obtain ⟨i, hi, rfl⟩ := List.mem_map.mp hd
          have := hm i (List.mem_append_left _ hi)
          exact (rp_int (by omega) (by omega)).up (by omega) (by omega)
        · obtain rfl := List.mem_singleton.mp hd
          exact q.1
      · obtain ⟨i, hi, rfl⟩ := List.mem_map.mp hd
        have := hm i (List.mem_append_right _ hi)
        exact (rp_int (by omega) (by omega)).up (by omega) (by omega)
    · rcases q.2 with q | q
      · refine .inl ?_
        simp only [PyData.hasDict, hasDictAll_app, hasDict_ints, PyData.hasDictAll, q, Bool.or_self]
      · exact .inr (noLs_app (noLs_app (noLs_ints ms1) (by show (noL e && true) = true; rw [q]; rfl)) (noLs_ints ms2))
/-! ### histories -/
theorem rp_srt {s : Srt} (h : s.ok) : Rp 20 1 s.data ∧ s.data.hasDict = false := by
  cases s with
  | room n =>
    refine ⟨(Rp.tuple (n := 4) (k := 0) (m := 2) (fun d hd => ?_) (Nat.le_refl _)).up (by omega) (by omega), rfl⟩
    simp only [List.mem_cons, List.not_mem_nil, or_false] at hd
    rcases hd with rfl | rfl
    · exact ⟨by decide, by decide, rfl, by decide⟩
    · have := h.1
      have := h.2
      exact (rp_int (by omega) (by omega)).up (by omega) (by omega)
  | _ => exact ⟨⟨by decide, by decide, rfl, by decide +kernel⟩, rfl⟩
theorem rp_wo {s : Srt} {w : Str} (h : w ∈ s.words) : Rp 20 0 (.str w) := by
  have all : ∀ w ∈ (["write", "read", "put", "take", "add", "count", "draw", "join", "drop", "has", "enter", "leave"] : List Str), (PyData.str w).bulk ≤ 20 ∧ (PyData.str w).depth ≤ 0 ∧ (PyData.str w).leavesShort 40 = true := by decide +kernel
  have hw : w ∈ (["write", "read", "put", "take", "add", "count", "draw", "join", "drop", "has", "enter", "leave"] : List Str) := by
    cases s <;> simp only [Srt.words, List.mem_cons, List.not_mem_nil, or_false] at h <;> first | (rcases h with rfl | rfl | rfl <;> decide) | (rcases h with rfl | rfl <;> decide) | (subst h; decide)
  obtain ⟨h1, h2, h3⟩ := all w hw
  exact ⟨h1, h2, rfl, h3⟩
theorem rp_giv {w : Str} {g : PyData} (h : canGive w g = true) : Rp 0 0 g ∧ g.hasDict = false := by
  unfold canGive at h
  split at h
  · cases g with
    | int i =>
      have h : (decide (0 ≤ i) && decide (i ≤ 1000000)) = true := h
      rw [Bool.and_eq_true, decide_eq_true_iff, decide_eq_true_iff] at h
      exact ⟨rp_int (by omega) (by omega), rfl⟩
    | _ => cases h
  · cases g <;> first | exact ⟨rp_none, rfl⟩ | cases h
theorem isVal_rp {g : PyData} (h : isVal g = true) : Rp 0 0 g ∧ g.hasDict = false := by
  cases g with
  | int i =>
    have h : (decide (0 ≤ i) && decide (i ≤ 1000000)) = true := h
    rw [Bool.and_eq_true, decide_eq_true_iff, decide_eq_true_iff] at h
    exact ⟨rp_int (by omega) (by omega), rfl⟩
  | _ => cases h
theorem rp_told {w : Str} {g : PyData} (h : canTell w g = true) : Rp 0 0 g ∧ g.hasDict = false := by
  unfold canTell at h
  split at h
  · rcases Bool.or_eq_true_iff.mp h with h | h
    · cases g <;> first | exact ⟨rp_none, rfl⟩ | cases h
    · exact isVal_rp h
  · split at h
    · exact isVal_rp h
    · split at h
      · rw [Bool.and_eq_true, decide_eq_true_iff] at h
        cases g with
        | int i =>
          have h2 : i ∈ ([0, 1] : List Int) := h.2
          simp only [List.mem_cons, List.not_mem_nil, or_false] at h2
          rcases h2 with rfl | rfl <;> exact ⟨rp_int (by decide) (by decide), rfl⟩
        | _ => cases h.1
      · cases g <;> first | exact ⟨rp_none, rfl⟩ | cases h
theorem rp_items {ss : List Srt} {c : Cl} (o : c.Ok ss) (h4 : ss.length ≤ 4) : ∀ d ∈ c.items, Rp 20 0 d ∧ d.hasDict = false := by
  obtain ⟨i, s, hi, hs, hw⟩ := o.at_
  have l := (List.getElem?_eq_some_iff.mp hs).1
  have b0 := o.b0
  have b1 := o.be
  have b2 := o.e1
  intro d hd
  unfold Cl.items Cl.doing at hd
  simp only [List.mem_cons, List.not_mem_nil, or_false] at hd
  rcases hd with rfl | rfl | rfl | rfl | rfl | rfl
  · exact ⟨(rp_int (by omega) (by omega)).up (by omega) (by omega), rfl⟩
  · exact ⟨(rp_int (by omega) (by omega)).up (by omega) (by omega), rfl⟩
  · exact ⟨(rp_int (by omega) (by omega)).up (by omega) (by omega), rfl⟩
  · exact ⟨rp_wo hw, rfl⟩
  · exact ⟨(rp_giv o.gv).1.up (by omega) (by omega), (rp_giv o.gv).2⟩
  · exact ⟨(rp_told o.tl).1.up (by omega) (by omega), (rp_told o.tl).2⟩
theorem rp_call {ss : List Srt} {c : Cl} (o : c.Ok ss) (h4 : ss.length ≤ 4) : Rp 126 1 c.data ∧ c.data.hasDict = false := by
  have q := rp_items o h4
  refine ⟨Rp.tuple (n := 20) (k := 0) (m := 6) (fun d hd => (q d hd).1) (Nat.le_refl _), ?_⟩
  show PyData.hasDictAll c.items = false
  exact hasDictAll_of fun d hd => (q d hd).2
theorem rp_part {ss : List Srt} {c : Cl} (o : c.Ok ss) (h4 : ss.length ≤ 4) : Rp 126 1 (dPart c) ∧ (dPart c).hasDict = false := by
  have q := rp_items o h4
  have q' : ∀ d ∈ [PyData.int c.b, .int c.e, .int 0, .str c.wo, c.giv, c.told], Rp 20 0 d ∧ d.hasDict = false := fun d hd => by
    simp only [List.mem_cons, List.not_mem_nil, or_false] at hd
    rcases hd with rfl | rfl | rfl | rfl | rfl | rfl
    · exact q _ (by unfold Cl.items Cl.doing; simp)
    · exact q _ (by unfold Cl.items Cl.doing; simp)
    · exact ⟨(rp_int (by decide) (by decide)).up (by omega) (by omega), rfl⟩
    · exact q _ (by unfold Cl.items Cl.doing; simp)
    · exact q _ (by unfold Cl.items Cl.doing; simp)
    · exact q _ (by unfold Cl.items Cl.doing; simp)
  refine ⟨Rp.tuple (n := 20) (k := 0) (m := 6) (fun d hd => (q' d hd).1) (Nat.le_refl _), ?_⟩
  show PyData.hasDictAll _ = false
  exact hasDictAll_of fun d hd => (q' d hd).2
/-- a list with one history that is part of another -/
theorem sh_hist {xs ys : List PyData} (hx : ∀ d ∈ xs, Rp 20 1 d ∧ d.hasDict = false) (hxl : xs.length ≤ 4) (hy : ∀ d ∈ ys, Rp 126 1 d ∧ d.hasDict = false) (hyl : ys.length ≤ 60) : Sh 20000 50 (.list [.tuple [.tuple xs, .tuple ys]]) := by
  have h1 : Rp 8000 2 (.tuple xs) := (Rp.tuple (n := 20) (k := 1) (m := 4) (fun d hd => (hx d hd).1) hxl).up (by omega) (Nat.le_refl _)
  have h2 : Rp 8000 2 (.tuple ys) := (Rp.tuple (n := 126) (k := 1) (m := 60) (fun d hd => (hy d hd).1) hyl).up (by omega) (Nat.le_refl _)
  have h3 : Rp 16002 3 (.tuple [.tuple xs, .tuple ys]) := Rp.tuple (n := 8000) (k := 2) (m := 2) (fun d hd => by
    simp only [List.mem_cons, List.not_mem_nil, or_false] at hd
    rcases hd with rfl | rfl
    · exact h1
    · exact h2) (Nat.le_refl _)
  have h4 : Rp 16003 4 (.list [.tuple [.tuple xs, .tuple ys]]) := (Rp.list (n := 16002) (k := 3) (m := 1) (fun d hd => by
    obtain rfl := List.mem_singleton.mp hd
    exact h3) (Nat.le_refl _)).up (by omega) (Nat.le_refl _)
  refine ⟨h4.up (by omega) (by omega), .inl ?_⟩
  simp only [PyData.hasDict, PyData.hasDictAll, hasDictAll_of fun d hd => (hx d hd).2, hasDictAll_of fun d hd => (hy d hd).2, Bool.or_self]
/-- (name, thing) -/
theorem sh_pair {n : Nat} {nm : Str} {d : PyData} (hs : Rp 20 0 (.str nm)) (h : Rp n 40 d) (hd : d.hasDict = false ∨ noL d = true) (hn : 20 ≤ n) : Sh (2 * (n + 1)) 50 (.tuple [.str nm, d]) := by
  refine ⟨(Rp.tuple (n := n) (k := 40) (m := 2) (fun e he => ?_) (Nat.le_refl _)).up (Nat.le_refl _) (by omega), ?_⟩
  · simp only [List.mem_cons, List.not_mem_nil, or_false] at he
    rcases he with rfl | rfl
    · exact hs.up hn (by omega)
    · exact h
  · rcases hd with hd | hd
    · refine .inl ?_
      simp only [PyData.hasDict, PyData.hasDictAll, hd, Bool.or_self]
    · exact .inr (by show (noL (.str nm) && (noL d && true)) = true; rw [hd]; rfl)
/-! ### a lambda is heard -/
section
variable {K : PySem.W.Frag} {σ : L2.St} {H : Hp} {A0 : Ad} {Tb : List (Addr × Str)} {n : Nat} {R : List PyData → Res → Prop} {Q : VK} {ar : TA} {ds : List PyData}
theorem heard_ok {d : PyData} (hT : Tabs Tb H) (h : ∀ H1, ExtN H H1 → EvAD K ar σ H1 ds) (hR : R ds (.ok d)) (hn : ds.length = n) (k : ∀ v H', ExtN H H' → Tabs Tb H' → Dt K No H' v (.list [d]) → Q v H') :
    tLam Tb (TTh A0) (fun E => tCall (spR K n R) [] E ar) σ H Q := ⟨hT, fun H1 x T1 => xr_call (h H1 x) hR hn fun v H2 e2 hv => ⟨by show 1 ≤ sizeLine; decide, fun p hp =>
    k _ _ (x.trans (extn_ex (e2.trans (Ex.new hp)))) (tabs_ex T1 (e2.trans (Ex.new hp))) (.lst upd_same (fun z => z) (.cons (hv.ex (Ex.new hp)) .nil))⟩⟩
theorem heard_er {C : Addr} {nm : Str} {g : PyData} (hT : Tabs Tb H) (h : ∀ H1, ExtN H H1 → EvAD K ar σ H1 ds) (hR : R ds (.er C g)) (hn : ds.length = n) (hC : (C, nm) ∈ errs A0) (k : ∀ v H', ExtN H H' → Tabs Tb H' → Dt K No H' v (.tuple [.str nm, g]) → Q v H') :
    tLam Tb (TTh A0) (fun E => tCall (spR K n R) [] E ar) σ H Q := ⟨hT, fun H1 x T1 => xr_call (h H1 x) hR hn fun dd y H2 e2 hx hy => ⟨C, nm, y, dd, hC, rfl, rfl, hx, fun p hp =>
    k _ _ (x.trans (extn_ex (e2.trans (Ex.new hp)))) (tabs_ex T1 (e2.trans (Ex.new hp))) (.tup (SqT.of upd_same) (.cons (.str _) (.cons (hy.ex (Ex.new hp)) .nil)))⟩⟩
/-- repr(x) != repr(y), x and y the same data -/
theorem same_cont {te2 : TE} {v : V} {d : PyData} {m : Nat} {Q : Bool → Hp → Prop} (hv : Dt K No H v d) (hq : isSeq d = true) (hs : Sh m 50 d) (hm : m ≤ 300000) (h2 : EvD K te2 σ H d) (k : ∀ H2, Ex H H2 → Q false H2) :
    rRepr K [v] H fun x H1 => tCB (rRepr K) (tCons te2 tNil) σ H1 fun y H2 => rNe x y H2 fun z H3 => ∃ k, z = .bl k ∧ Q k H3 :=
  ⟨v, d, m, rfl, hv, hq, hs.rp.up (Nat.le_refl _) (by omega), hm, hs.nd, (ed_repr h2 hq (hs.rp.up (Nat.le_refl _) (by omega)) hm hs.nd).go fun u H2 e2 hu => by
    obtain rfl := hu.toStr
    refine ⟨by simp [scal, flatB], _, rfl, ?_⟩
    have e : (!decide ((V.str d.shown) = V.str d.shown)) = false := by simp
    rw [e]
    exact k H2 e2⟩
end
end SB
end

section
set_option Elab.async false
set_option linter.all false
set_option maxRecDepth 100000
set_option maxHeartbeats 2000000
set_option autoImplicit false
/-! SbL17: are lots told well. -/
namespace SB
open PySem PySem.Spec PyProof.Rows L2 Evl LamX
abbrev s__law_lots_good : Stmt := topS 66
abbrev N__law_lots_good : List Str := ["_law_state", "_law_history_here", "_law_many", "_law_lot", "_law_k", "_law_some", "_law_one", "_law_due"]
theorem sc__law_lots_good : FnScope N__law_lots_good ["_law_state", "_law_history_here"] (C8.fnScope s__law_lots_good) := C8.fnScope_by (by decide +kernel)
local macro_rules | `(tactic| walk_at "sd") => `(tactic| first | with_reducible rfl | assumption | exact SeqD.t | exact SeqD.l | rfl | omega)
local macro_rules | `(tactic| walk_at "dt") => `(tactic| first | assumption | exact Dt.int _ | exact Dt.bl _ | exact Dt.str _ | exact Dt.non | exact Dt.ex (by assumption) (by assumption))
local macro_rules | `(tactic| walk_at "ev") => `(tactic| first
  | assumption
  | with_reducible apply ed_int
  | with_reducible apply ed_str
  | with_reducible apply ed_bl
  | with_reducible apply ed_non
  | with_reducible apply ead_nil
  | with_reducible exact et_yes
  | with_reducible exact eo_none
  | exact evd_var rfl (by walk_at "dt")
  | ((with_reducible apply td_test); walk_at "ev")
  | ((with_reducible apply td_B); walk_at "ev")
  | ((with_reducible apply et_not); walk_at "ev")
  | ((with_reducible apply et_and); walk_at "ev"; intro _; walk_at "ev")
  | ((with_reducible apply et_or); walk_at "ev"; intro _; walk_at "ev")
  | ((with_reducible apply ead_cons); walk_at "ev"; walk_at "ev")
  | ((with_reducible apply eod_some); walk_at "ev")
  | ((with_reducible apply evd_tup); walk_at "ev"; first | decide | (focus (simp; done)) | omega)
  | ((with_reducible apply evd_lst); walk_at "ev"; first | decide | (focus (simp; done)) | omega)
  | ((with_reducible apply ed_not); walk_at "ev")
  | ((with_reducible apply ed_and); walk_at "ev"; intro _; walk_at "ev")
  | ((with_reducible apply ed_or); walk_at "ev"; intro _; walk_at "ev")
  | ((with_reducible apply ed_i0); walk_at "ev"; walk_at "ev")
  | ((with_reducible apply ed_b0); walk_at "ev"; walk_at "ev")
  | ((with_reducible apply ed_eqI); walk_at "ev"; walk_at "ev")
  | ((with_reducible apply ed_eqS); walk_at "ev"; walk_at "ev")
  | ((with_reducible apply ed_eqB); walk_at "ev"; walk_at "ev")
  | ((with_reducible apply ed_neI); walk_at "ev"; walk_at "ev")
  | ((with_reducible apply ed_neS); walk_at "ev"; walk_at "ev")
  | ((with_reducible apply ed_neB); walk_at "ev"; walk_at "ev")
  | ((with_reducible apply ed_isN); walk_at "ev"; walk_at "ev")
  | ((with_reducible apply ed_notN); walk_at "ev"; walk_at "ev")
  | ((with_reducible apply ed_chain); walk_at "ev"; walk_at "ev"; walk_at "ev")
  | ((with_reducible apply ed_ixT); walk_at "ev"; walk_at "ev"; walk_at "sd")
  | ((with_reducible apply ed_ixL); walk_at "ev"; walk_at "ev"; walk_at "sd")
  | ((with_reducible apply ed_isi); walk_at "ev"; (first | exact kit_int _ | exact kit_bool _ | exact kit_tuple _ | exact kit_str _))
  | ((with_reducible apply ed_len); walk_at "ev"; walk_at "sd")
  | ((with_reducible apply ed_call); walk_at "ev"; (first | assumption | exact ⟨_, rfl, rfl⟩ | exact ⟨_, _, rfl, rfl⟩ | exact ⟨_, _, _, rfl, rfl⟩); exact rfl)
  | ((with_reducible apply ed_max2); walk_at "ev"; walk_at "ev")
  | ((with_reducible apply ed_min2); walk_at "ev"; walk_at "ev")
  | ((with_reducible apply ed_list); walk_at "ev"; walk_at "sd")
  | ((with_reducible apply ed_tuple); walk_at "ev"; walk_at "sd")
  | ((with_reducible apply ed_neg); walk_at "ev"))

section
variable {K : PySem.W.Frag} {σ : L2.St} {H H' : Hp} {ta tb tc te : TE} {t : TT}
/-- [i for i in range(n) if draw(2) == 0] -/
theorem lcR_goF (K : PySem.W.Frag) {z : Sp3} {k n j : Nat} {ti : TA} {Q : VK} (hi : EvA ti σ H [.int (n : Int)]) (sw : SW z H (j + n)) (hz : n ≤ 40000) (h0 : ∀ v, ((wipe σ [k]).set k (some v))[0]? = some (some (.ref z.S))) (hk : k < σ.length)
    (q : ∀ p H2 ms, H p = none → Kp z.bar H H2 → SW z H2 j → H2 p = some (.lst (ms.map V.int)) → (ms : List Int).Pairwise (· < ·) → (∀ i ∈ ms, 0 ≤ i ∧ i < (n : Int)) → ms.length ≤ n → Q (.ref p) H2) :
    tLc (iRng1 ti) (gName k) (tTest (tOp rEq (tCall (spDraw z) [] C8.E0 (tCons (tVar 0) (tCons (tC (.int 2)) tNil))) (tC (.int 0)))) (tVar k) [k] σ H Q := hi H (Ex.refl H) _ fun H1 e1 => by
  have sw1 := sw.mono e1
  refine ⟨n, rfl, by omega, by omega, fun Dl hD => ?_⟩
  have hb := sw1.nbar hD
  have hc := sw1.nC hD
  refine lc_it walk_range (fun i H' => Kp z.bar H1 H' ∧ SW z H' (j + (n - i)) ∧ ∃ ms : List Int, H' Dl = some (.lst (ms.map V.int)) ∧ ms.length ≤ i ∧ ms.Pairwise (· < ·) ∧ ∀ m ∈ ms, 0 ≤ m ∧ m < (i : Int)) ⟨(Kp.refl _).mutp hD, sw1.mutp hb hc, [], upd_same, Nat.le_refl _, .nil, fun d hd => absurd hd List.not_mem_nil⟩ (fun _ _ _ _ => trivial) (fun i x H' H'' hi p y => ?_) fun H' p => ?_
  · obtain ⟨kpi, swi, ms, hms, hl, pw, hb2⟩ := p
    obtain ⟨rfl, hx⟩ := y
    have hx : x = .int (i : Int) := by rw [hx]; simp
    subst hx
    have hi : i < n := by simpa using hi
    refine ⟨wipe1, ?_⟩
    rw [show j + (n - i) = j + (n - (i + 1)) + 1 by omega] at swi
    refine drawq_go K (h0 _) swi (by decide) (by decide) fun b H4 kp4 sw4 => ?_
    have hms4 := kp4.k Dl _ hb hms
    cases b with
    | false => exact ⟨kpi.trans kp4, sw4, ms, hms4, by omega, pw, fun m hm => by have := hb2 m hm; omega⟩
    | true =>
      have hs : ((wipe σ [k]).set k (some (.int (i : Int))))[k]? = some (some (V.int (i : Int))) := List.getElem?_set_self (by show k < (σ.set k none).length; rw [List.length_set]; exact hk)
      refine ⟨_, hs, ms.map V.int, hms4, sz_lt (by rw [List.length_map]; omega), (kpi.trans kp4).mutp hD, sw4.mutp hb hc, ms ++ [(i : Int)], by rw [upd_same, List.map_append]; rfl, by rw [List.length_append]; show ms.length + 1 ≤ _; omega, ?_, fun m hm => ?_⟩
      · rw [List.pairwise_append]
        refine ⟨pw, List.pairwise_singleton _ _, fun a ha b hb => ?_⟩
        obtain rfl := List.mem_singleton.mp hb
        exact (hb2 a ha).2
      · rcases List.mem_append.mp hm with hm | hm
        · have := hb2 m hm
          omega
        · obtain rfl := List.mem_singleton.mp hm
          omega
  · obtain ⟨kpi, swi, ms, hms, hl, pw, hb2⟩ := p
    rw [Int.toNat_natCast] at swi hl hb2
    rw [Nat.sub_self] at swi
    exact q Dl H' ms (fresh_back e1 hD) ((Kp.of e1).trans kpi) swi hms pw hb2 hl
end
section
variable {P : Program} {w : World} {K : PySem.W.Frag} {mg : Str → Option Value} {base : Heap} {A0 : Ad} {u : Us}
def spLots (K : PySem.W.Frag) (z : Sp3) (u : Us) : Sp := fun vs H Q _ => ∃ v ss cs j, vs = [.ref z.S, v] ∧ Dt K No H v (dHist ss cs) ∧ HistOk ss cs ∧ SW z H (j + 15) ∧ Tabs (tabsOf u) H ∧ ∀ H', Keep K H H' → SW z H' j → Tabs (tabsOf u) H' → Q (.bl true) H'
theorem c__law_lots_good (T : Tx A0 K w mg) (U : Ux K mg base u) (z : Sp3) : CalG P w K mg base 12 "_law_lots_good" (spLots K z u) := by
  have c__law_draw := c__law_draw (P := P) (base := base) T z
  have c__law_twisted := c__law_twisted (P := P) (base := base) T z
  have c__law_is_lot := c__law_is_lot (P := P) (base := base) T
  have x_calls_of_lot := x_calls_of_lot (P := P) (base := base) T
  refine calG_of U.lots sc__law_lots_good (fun vs H Q E h => by obtain ⟨v, ss, cs, j, rfl, _⟩ := h; rfl) (fun f A outer s H vs Q E hr hgd h => ?_)
  obtain ⟨v, ss, cs, j, rfl, hv, ok, sw, hT, k⟩ := h
  refine ⟨_, (pss_cons (ps_set (i := 2) sc__law_lots_good.nd rfl (by first | exact Or.inl rfl | exact Or.inr rfl) (pe_callB call_len_seq (by rfl) T.len (by decide +kernel) (pa_cons (pe_ix ix_tup (pv 1) pe_int (fun _ _ => rfl)) pa_nil)))
        (pss_cons (ps_set (i := 3) sc__law_lots_good.nd rfl (by first | exact Or.inl rfl | exact Or.inr rfl) (pe_callTy call_tuple_of (by rfl) T.tuple (by decide +kernel) (pa_cons (pe_lc (own := [("_law_k", 4)]) (by rfl) sc__law_lots_good.nd (pi_range1 (by rfl) T.range (pa_cons (pv 2) pa_nil)) (blkOk_by (N := N__law_lots_good) (sc := (C8.fnScope s__law_lots_good)) (by decide +kernel)) (fun _ _ _ _ _ => (pg_name (i := 4) sc__law_lots_good.nd rfl (by first | exact Or.inl rfl | exact Or.inr rfl))) (fun _ _ _ _ _ => (pts_one (pt_cmpR op_eq (C8.pe_c c__law_draw hr (by decide) (by rfl) (pa_cons (pv 0) (pa_cons pe_int pa_nil))) pe_int (nomark _)))) (fun _ _ _ _ _ => (pv 4))) pa_nil)))
        (pss_cons (ps_set (i := 5) sc__law_lots_good.nd rfl (by first | exact Or.inl rfl | exact Or.inr rfl) (pe_lst (pa_cons (pv 3) (pa_cons (pe_tup pa_nil) (pa_cons (pe_tupRg rfl (by rfl) T.tuple (prg_1 (by rfl) T.range (pv 2))) (pa_cons (C8.pe_c c__law_twisted hr (by decide) (by rfl) (pa_cons (pv 0) (pa_cons (pv 3) pa_nil))) (pa_cons (pe_revT (pv 3)) (pa_cons pe_non (pa_cons (pe_lst (pa_cons pe_int pa_nil)) (pa_cons (pe_tup (pa_cons pe_bl pa_nil)) (pa_cons (pe_tup (pa_cons (pv 2) pa_nil)) (pa_cons (pe_op op_catA (pv 3) (pe_tup (pa_cons pe_int pa_nil))) pa_nil))))))))))))
        (pss_cons (ps_for PassesOwn.never rfl (pi_list (pv 5)) (pg_name (i := 6) sc__law_lots_good.nd rfl (by first | exact Or.inl rfl | exact Or.inr rfl)) (pss_cons (ps_set (i := 7) sc__law_lots_good.nd rfl (by first | exact Or.inl rfl | exact Or.inr rfl) (pe_tup (pa_cons pe_str (pa_cons (pv 6) pa_nil))))
          (pss_cons (ps_if (pt_val (C8.pe_c c__law_is_lot hr (by decide) (by rfl) (pa_cons (pv 2) (pa_cons (pv 6) pa_nil)))) (pss_one (ps_set (i := 7) sc__law_lots_good.nd rfl (by first | exact Or.inl rfl | exact Or.inr rfl) (pe_lst (pa_cons (pe_tup (pa_cons (pe_ix ix_tup (pv 1) pe_int (fun _ _ => rfl)) (pa_cons (pe_callTy call_tuple_of (by rfl) T.tuple (by decide +kernel) (pa_cons (pe_lc (own := [("_law_k", 4)]) (by rfl) sc__law_lots_good.nd (pi_tup (pv 6)) (blkOk_by (N := N__law_lots_good) (sc := (C8.fnScope s__law_lots_good)) (by decide +kernel)) (fun _ _ _ _ _ => (pg_name (i := 4) sc__law_lots_good.nd rfl (by first | exact Or.inl rfl | exact Or.inr rfl))) (fun _ _ _ _ _ => pts_nil) (fun _ _ _ _ _ => (pe_ix (show IxR _ (rIxT K) from ix_tup) (pe_ix (show IxR _ (rIxT K) from ix_tup) (pv 1) pe_int (fun _ _ => rfl)) (pv 4) (fun _ _ => rfl)))) pa_nil)) pa_nil))) pa_nil)))) pss_nil)
          (pss_one (ps_if (pt_cmpR op_ne (pe_callB (show CallR _ _ (rRepr K) from cr_repr hgd (hu65 hr)) (by rfl) T.repr (by decide +kernel) (pa_cons (pe_heard T (by rfl) U.tl rfl (by unfold tabsOf; exact List.mem_cons_self) (hu_l U) hr (lamS_by (sc := (C8.fnScope s__law_lots_good)) (by decide +kernel)) rfl (fun _ _ _ _ _ => rfl) (fun A outer s H E f c' hr => pe_cX x_calls_of_lot hr (L2.takes_of rfl rfl rfl rfl) (fun _ _ _ _ h => h) (by decide) (by rfl) (pa_cons (pe_var (i := 1) rfl (.inr (.inr rfl))) (pa_cons (pe_var (i := 6) rfl (.inr (.inr rfl))) pa_nil)))) pa_nil)) (pe_callB (show CallR _ _ (rRepr K) from cr_repr hgd (hu65 hr)) (by rfl) T.repr (by decide +kernel) (pa_cons (pv 7) pa_nil)) (nomark _)) (pss_one (ps_ret pe_bl)) pss_nil)))))
        (pss_one (ps_ret pe_bl)))))), ?_⟩
  try simp only [cxK, cxK2, List.map_cons, List.map_nil]
  have hvt : Dt K No H v (.tuple [dSorts ss, dCalls cs]) := hv
  have hc10 := ok.c10
  obtain ⟨n, hn⟩ : ∃ n, cs.length = n := ⟨_, rfl⟩
  rw [hn] at hc10
  have h1 : ∀ {σ : L2.St} {H1 : Hp}, σ[1]? = some (some v) → Dt K No H1 v (.tuple [dSorts ss, dCalls cs]) → EvD K (tOp (rIxT K) (tVar 1) (tC (.int 1))) σ H1 (.tuple (cs.map Cl.data)) := fun h h' => ed_ixT (i := 1) (d := dCalls cs) (evd_var h h') ed_int rfl
  refine qd_asg (d := .int (n : Int)) (evd_is (ed_len (h1 rfl hvt) .t) (by rw [List.length_map, hn])) fun nv H1 e1 hnv => ?_
  obtain rfl := hnv.toInt
  -- the lot
  refine asg_go (cb1_go ?_)
  refine lcR_goF K (z := z) (n := n) (j := j + 15 - n) (ea_cons (ev_var rfl) ea_nil) ((sw.mono e1).le (by omega)) (by omega) (fun _ => rfl) (by rw [List.length_set]; show 4 < 8; decide) fun pl H2 ms hpl kp2 sw2 hms pw hmb hml => ?_
  refine ⟨pl, _, rfl, .inl ⟨SqL.of hms, fun lt hlt => ?_⟩⟩
  have e3 : Ex H2 (upd H2 lt (.tup (ms.map V.int))) := Ex.new hlt
  have hlot : Dt K No (upd H2 lt (.tup (ms.map V.int))) (.ref lt) (tupI ms) := .tup (SqT.of upd_same) (DtAll.ints ms)
  have kp3 : Kp z.bar H (upd H2 lt (.tup (ms.map V.int))) := ((Kp.of e1).trans kp2).trans (Kp.of e3)
  have sw3 := sw2.mono e3
  have hv3 : Dt K No (upd H2 lt (.tup (ms.map V.int))) v (.tuple [dSorts ss, dCalls cs]) := kp_noL hvt ok.noL kp3
  have T3 := tabs_kp hT sw kp3
  generalize upd H2 lt (.tup (ms.map V.int)) = H3 at hlot kp3 sw3 hv3 T3 ⊢
  have ml : ms.length ≤ 10 := by omega
  have hmb : ∀ i ∈ ms, 0 ≤ i ∧ i < 10 := fun i hi => by have := hmb i hi; omega
  -- the things that are asked
  have dlot : tupI ms = .tuple (ms.map PyData.int) := rfl
  refine asg_go ?_
  refine ⟨_, rfl, (evd_tup (K := K) (ds := []) ead_nil (by decide)).go fun v2 H4 e4 hv2 => ?_⟩
  refine (ed_tupRg (K := K) (n := n) (evd_var (d := .int (n : Int)) rfl (.int _)) (by omega)).go fun v3 H5 e5 hv3' => ?_
  refine callA_go (ea_cons (ev_var rfl) (ea_cons (ev_var rfl) ea_nil)) fun H6 e6 => ?_
  have e36 := (e4.trans e5).trans e6
  have sw6 := sw3.mono e36
  refine ⟨.ref lt, ms, j, rfl, hlot.ex e36, by omega, fun i hi => by have := hmb i hi; omega, sw6.le (by omega), fun u4 H7 d kp7 sw7 htw hu4 => ?_⟩
  have hlot7 := kp_noL (hlot.ex e36) (noLs_ints ms) kp7
  have kp37 : Kp z.bar H3 H7 := (Kp.of e36).trans kp7
  refine efa_cons (K := K) (H0 := H7) (d := tupI ms.reverse) (ds := [.none, .list [.int 0], .tuple [.bool true], .tuple [.int (n : Int)], tupI (ms ++ [9])]) (ef_of (evd_is (ed_rev (evd_var rfl hlot7)) (by rw [tupI, List.map_reverse])) (noLs_ints _)) (efa_cons (ef_of ed_non) (efa_cons (ef_newL (Ex.refl _) (evn_lst (ead_cons ed_int ead_nil) (by decide)) rfl) (efa_cons (ef_of (evd_tup (ead_cons ed_bl ead_nil) (by decide)))
    (efa_cons (ef_of (evd_tup (ead_cons (evd_var (d := .int (n : Int)) rfl (.int _)) ead_nil) (by show 1 ≤ 100000; decide))) (efa_cons (ef_of (evd_is (evd_cat (es := [.int 9]) (evd_var rfl hlot7) (evd_tup (ead_cons ed_int ead_nil) (by decide)) (by rw [List.length_map]; show _ + 1 ≤ _; omega)) (by rw [tupI, List.map_append]; rfl)) (noLs_ints _)) efa_nil))))) H7 (Ex.refl H7) _ fun vs H8 e8 hvs => ?_
  have l8 : vs.length = 6 := hvs.len
  refine ⟨by show vs.length + 1 + 1 + 1 + 1 ≤ sizeLine; rw [l8]; decide, fun p hp => ?_⟩
  obtain ⟨DS, hDS⟩ : ∃ DS, [tupI ms, .tuple [], .tuple (rgD 0 n), d] ++ [tupI ms.reverse, .none, .list [.int 0], .tuple [.bool true], .tuple [.int (n : Int)], tupI (ms ++ [9])] = DS := ⟨_, rfl⟩
  have nrg : noL (.tuple (rgD 0 n)) = true := by
    rw [rgD_ints]
    exact noLs_ints _
  have hall : DtAll K z.bar H8 (.ref lt :: v2 :: v3 :: u4 :: vs) DS := by
    rw [← hDS]
    refine .cons ((hlot7.ex e8).any (noLs_ints ms)) (.cons ((kp_noL (hv2.ex (e5.trans e6)) rfl kp7).ex e8 |>.any rfl) (.cons ((kp_noL (hv3'.ex e6) nrg kp7).ex e8 |>.any nrg) (.cons ((Dt.wk (fun a h => sw6.old h) d u4 hu4).ex e8) (DtAll.wk (fun a h => sw7.old h) _ _ hvs))))
  have g : Grow K z p DS (upd H8 p (.lst (.ref lt :: v2 :: v3 :: u4 :: vs))) := ⟨(sw7.mono e8).nbar hp, (sw7.mono e8).nC hp, _, upd_same, (DtAll.oldx hp _ _ hall).ex (Ex.new hp)⟩
  have e9 : Ex H7 (upd H8 p (.lst (.ref lt :: v2 :: v3 :: u4 :: vs))) := e8.trans (Ex.new hp)
  have kp9 : Kp z.bar H (upd H8 p (.lst (.ref lt :: v2 :: v3 :: u4 :: vs))) := (kp3.trans kp37).trans (Kp.of e9)
  have sw9 := sw7.mono e9
  have T9 := tabs_kp hT sw kp9
  have hv9 := kp_noL hvt ok.noL kp9
  have hp9 : upd H8 p (.lst (.ref lt :: v2 :: v3 :: u4 :: vs)) p = some (.lst (.ref lt :: v2 :: v3 :: u4 :: vs)) := upd_same
  have K9 : Keep K H (upd H8 p (.lst (.ref lt :: v2 :: v3 :: u4 :: vs))) := Keep.kp kp9
  have Vl : (.ref lt :: v2 :: v3 :: u4 :: vs : List V).length = DS.length := hall.len
  generalize upd H8 p (.lst (.ref lt :: v2 :: v3 :: u4 :: vs)) = H9 at g sw9 T9 hv9 hp9 K9 ⊢
  generalize (.ref lt :: v2 :: v3 :: u4 :: vs : List V) = VS at hp9 Vl ⊢
  have facts : ∀ x ∈ DS, Sh 1000 9 x ∧ (itemsOf x).length ≤ 21 := fun x hx => by
    have hIn : ∀ ns : List Int, (∀ i ∈ ns, 0 ≤ i ∧ i ≤ 100) → ns.length ≤ 21 → Sh 1000 9 (tupI ns) ∧ (itemsOf (tupI ns)).length ≤ 21 := fun ns h hl => ⟨tw_sh (.inr (.inl ⟨ns, rfl, hl, h⟩)), tw_len (.inr (.inl ⟨ns, rfl, hl, h⟩))⟩
    rw [← hDS] at hx
    rcases List.mem_append.mp hx with hx | hx
    · simp only [List.mem_cons, List.not_mem_nil, or_false] at hx
      rcases hx with rfl | rfl | rfl | rfl
      · exact hIn ms (fun i hi => by have := hmb i hi; omega) (by omega)
      · exact hIn [] (fun i hi => absurd hi List.not_mem_nil) (by decide)
      · rw [rgD_ints]
        exact hIn (rgI n) (fun i hi => by have := mem_rgI.mp hi; omega) (by rw [len_rgI]; omega)
      · exact ⟨tw_sh htw, tw_len htw⟩
    · simp only [List.mem_cons, List.not_mem_nil, or_false] at hx
      rcases hx with rfl | rfl | rfl | rfl | rfl | rfl
      · exact hIn _ (fun i hi => by have := hmb i (List.mem_reverse.mp hi); omega) (by rw [List.length_reverse]; omega)
      · exact ⟨⟨rp_none.up (by omega) (by omega), .inl rfl⟩, by decide⟩
      · exact ⟨⟨⟨by decide, by decide, by decide, by decide⟩, .inl (by decide)⟩, by decide⟩
      · exact ⟨⟨⟨by decide, by decide, by decide, by decide⟩, .inl (by decide)⟩, by decide⟩
      · exact hIn [(n : Int)] (fun i hi => by obtain rfl := List.mem_singleton.mp hi; omega) (by show 1 ≤ 21; decide)
      · refine hIn _ (fun i hi => ?_) (by rw [List.length_append]; show _ + 1 ≤ _; omega)
        rcases List.mem_append.mp hi with hi | hi
        · have := hmb i hi
          omega
        · obtain rfl := List.mem_singleton.mp hi
          omega
  -- one after the other
  refine ⟨_, rfl, p, rfl, ⟨VS, SqL.of hp9⟩, for_it (walk_list (xs := VS)) (fun i σ' H' => (∃ o4 o6 o7, σ' = [some (.ref z.S), some v, some (.int (n : Int)), some (.ref lt), o4, some (.ref p), o6, o7]) ∧ SW z H' j ∧ Tabs (tabsOf u) H' ∧ Keep K H H' ∧ Grow K z p DS H' ∧ H' p = some (.lst VS))
    ⟨⟨_, _, _, rfl⟩, sw9, T9, K9, g, hp9⟩ (fun i σ H _ q => SqL.of q.2.2.2.2.2) (fun i x σ' H10 H11 hi q y => ?_) fun σ' H10 q => ?_⟩
  · obtain ⟨⟨o4, o6, o7, rfl⟩, swq, Tq, Kq, gq, hpq⟩ := q
    obtain ⟨rfl, hxi⟩ := y
    obtain ⟨x', hx', hxd⟩ : ∃ d, DS[i]? = some d ∧ Dt K No H11 x d := by
      obtain ⟨vs', h1', h2'⟩ := gq.h
      rw [hpq] at h1'
      obtain rfl := HO.lst.inj (Option.some.inj h1')
      obtain ⟨d', hd', hxd⟩ := h2'.get hxi
      exact ⟨d', hd', hxd.no⟩
    have hx' : DS[i]? = some x' := hx'
    obtain ⟨shx, lx⟩ := facts x' (List.mem_of_getElem? hx')
    have hvq : Dt K No H11 v (.tuple [dSorts ss, dCalls cs]) := Kq v _ ok.noL hvt
    show tSeq _ _ _ _ _
    refine qd_asg (K := K) (d := .tuple [.str "lot", x']) (evd_tup (ead_cons ed_str (ead_cons (evd_var rfl hxd) ead_nil)) (by show 2 ≤ 100000; decide)) fun due H12 e12 hdue => ?_
    -- what is heard is what is due
    have fin : ∀ (r : Res) (dd : PyData) (H13 : Hp) (o4 : Option V) (dv : V) {D : Ends}, Ex H11 H13 → Dt K No H13 dv dd → (r = if lotIn n x' = true then .ok (dLot ss cs ((itemsOf x').map toI)) else .er A0.cL x') → (match r with | .ok d => dd = .list [d] | .er _ g => dd = .tuple [.str "lot", g]) → isSeq dd = true → Sh 20000 50 dd →
        (∀ σ' H', ((∃ o4 o6 o7, σ' = [some (.ref z.S), some v, some (.int (n : Int)), some (.ref lt), o4, some (.ref p), o6, o7]) ∧ SW z H' j ∧ Tabs (tabsOf u) H' ∧ Keep K H H' ∧ Grow K z p DS H' ∧ H' p = some (.lst VS)) → D.nx σ' H') →
        tIfS (tTest (tOp rNe (tCB (rRepr K) (tCons (tLam (tabsOf u) (TTh A0) fun E => tCall (spCallsOfLot A0 K) [] E (tCons (tVar 1) (tCons (tVar 6) tNil))) tNil)) (tCB (rRepr K) (tCons (tVar 7) tNil)))) (tRet (tC (V.bl false))) tNext D [some (.ref z.S), some v, some (.int (n : Int)), some (.ref lt), o4, some (.ref p), some x, some dv] H13 := fun r dd H13 o4 dv D e13 hdv hr hdd hq hs hD => by
      have hv13 := hvq.ex e13
      have hx13 := hxd.ex e13
      have args : ∀ H1, ExtN H13 H1 → EvAD K (tCons (tVar 1) (tCons (tVar 6) tNil)) [some (.ref z.S), some v, some (.int (n : Int)), some (.ref lt), o4, some (.ref p), some x, some dv] H1 [dHist ss cs, x'] := fun H1 x1 => ead_cons (evd_var (d := dHist ss cs) rfl (hv13.en x1)) (ead_cons (evd_var rfl (hx13.en x1)) ead_nil)
      have T13 := tabs_ex Tq e13
      have done : ∀ H', ExtN H13 H' → Tabs (tabsOf u) H' → ∀ H2, Ex H' H2 → D.nx [some (.ref z.S), some v, some (.int (n : Int)), some (.ref lt), o4, some (.ref p), some x, some dv] H2 := fun H' x1 T1 H2 e2 => by
        have x2 := x1.trans (extn_ex e2)
        exact hD _ _ ⟨⟨_, _, _, rfl⟩, (swq.mono e13).en x2, tabs_ex T1 e2, (Kq.trans (Keep.ex e13)).trans (Keep.en x2), (gq.kp (Kp.of e13)).en x2, x2 _ _ (e13 _ _ hpq) (fun _ z => by cases z)⟩
      have hR : (∃ ss' cs' x, HistOk ss' cs' ∧ (itemsOf x).length ≤ 20000 ∧ [dHist ss cs, x'] = [dHist ss' cs', x] ∧ r = if lotIn cs'.length x = true then .ok (dLot ss' cs' ((itemsOf x).map toI)) else .er A0.cL x) ∨ ∃ x, [dHist ss cs, x'] = [dWrong, x] ∧ r = .er A0.cH (.str "calls") := .inl ⟨ss, cs, x', ok, by omega, rfl, by rw [hn]; exact hr⟩
      cases r with
      | ok d =>
        have hdd : dd = .list [d] := hdd
        subst hdd
        exact heard_ok T13 args hR rfl fun v' H' x1 T1 hv' => same_cont hv' rfl hs (by omega) (evd_var rfl (hdv.en x1)) fun H2 e2 => done H' x1 T1 H2 e2
      | er C g =>
        have hdd : dd = .tuple [.str "lot", g] := hdd
        subst hdd
        have hC : C = A0.cL := by
          split at hr
          · cases hr
          · exact (Res.er.inj hr).1
        exact heard_er (nm := "lot") T13 args hR rfl (by rw [hC]; unfold errs; simp) fun v' H' x1 T1 hv' => same_cont hv' rfl hs (by omega) (evd_var rfl (hdv.en x1)) fun H2 e2 => done H' x1 T1 H2 e2
    refine q_when (b := lotIn n x') (td_B (K := K) (ed_call (ead_cons (evd_var (d := .int (n : Int)) rfl (.int _)) (ead_cons (evd_var rfl (hxd.ex e12)) ead_nil)) ⟨n, x', by omega, rfl, rfl⟩ rfl)) (fun hb H13 e13 => ?_) fun hb H13 e13 => ?_
    · have hA : areNums x' n = true := by
        unfold lotIn at hb
        rw [Bool.and_eq_true] at hb
        exact hb.1
      obtain ⟨ns, rfl, hns, ens⟩ := areNums_ints hA
      have lx : (ns.map PyData.int).length ≤ 21 := lx
      rw [List.length_map] at lx
      have hv13 := hvq.ex (e12.trans e13)
      have hx13 := hxd.ex (e12.trans e13)
      have hcall : ∀ i ∈ ns, ∃ c ∈ cs, atI (cs.map Cl.data) i = some (callAt cs i) ∧ callAt cs i = c.data := fun i hi => callAt_of (hns i hi).1 (by rw [hn]; exact (hns i hi).2)
      refine sd_asg (K := K) (d := .list [dLot ss cs ns]) (evd_lst (ead_cons (evd_tup (ead_cons (ed_ixT (i := 0) (d := dSorts ss) (evd_var rfl hv13) ed_int rfl) (ead_cons (ed_tuple (d := .list _) (EvN.d (evn_is (ds := (ns.map PyData.int).map fun d => callAt cs (toI d)) (es := ns.map (callAt cs)) (lcT_map (fun d => callAt cs (toI d)) (evd_var rfl hx13) (by rw [List.length_map]; omega) (fun d hd => ?_) fun d hd y H1 e hy => ?_) ?_)) .l) ead_nil)) (by show 2 ≤ 100000; decide)) ead_nil) (by show 1 ≤ 100000; decide)) fun due2 H14 e14 hdue2 => ?_
      · obtain ⟨i, hi, rfl⟩ := List.mem_map.mp hd
        obtain ⟨c, hc, _, h2⟩ := hcall i hi
        show noL (callAt cs i) = true
        rw [h2]
        exact (ok.co c hc).noL
      · obtain ⟨i, hi, rfl⟩ := List.mem_map.mp hd
        obtain ⟨c, hc, h1', h2⟩ := hcall i hi
        exact ed_ixT (ed_ixT (ds := [dSorts ss, dCalls cs]) (i := 1) (evd_var rfl (hv13.ex e)) ed_int rfl) (evd_var rfl hy) h1'
      · rw [List.map_map]
        rfl
      · refine fin (.ok (dLot ss cs ns)) (.list [dLot ss cs ns]) H14 _ due2 ((e12.trans e13).trans e14) hdue2 (by rw [if_pos hb, ens]) rfl rfl ?_ fun σ' H' h => h
        refine sh_hist (fun d hd => ?_) (by rw [List.length_map]; exact ok.s4) (fun d hd => ?_) (by rw [List.length_map]; omega)
        · obtain ⟨s, hs, rfl⟩ := List.mem_map.mp hd
          exact rp_srt (ok.so s hs)
        · obtain ⟨i, hi, rfl⟩ := List.mem_map.mp hd
          obtain ⟨c, hc, _, h2⟩ := hcall i hi
          rw [h2]
          exact rp_call (ok.co c hc) ok.s4
    · refine fin (.er A0.cL x') _ H13 _ due (e12.trans e13) (hdue.ex e13) (by rw [if_neg (by rw [hb]; decide)]) rfl rfl ?_ fun σ' H' h => h
      have q := sh_pair (nm := "lot") (n := 1000) ⟨by decide, by decide, rfl, by decide +kernel⟩ (shx.rp.up (Nat.le_refl _) (by omega)) shx.nd (by omega)
      exact ⟨q.rp.up (by omega) (Nat.le_refl _), q.nd⟩
  · obtain ⟨⟨o4, o6, o7, rfl⟩, swq, Tq, Kq, gq, hpq⟩ := q
    exact k H10 Kq swq Tq
end
end SB
end

section
set_option Elab.async false
set_option linter.all false
set_option maxRecDepth 100000
set_option maxHeartbeats 2000000
set_option autoImplicit false
/-! SbL18: are things told well. -/
namespace SB
open PySem PySem.Spec PyProof.Rows L2 Evl LamX
abbrev s__law_things_good : Stmt := topS 67
abbrev N__law_things_good : List Str := ["_law_history_here", "_law_thing", "_law_due", "_law_own", "_law_one"]
theorem sc__law_things_good : FnScope N__law_things_good ["_law_history_here"] (C8.fnScope s__law_things_good) := C8.fnScope_by (by decide +kernel)
local macro_rules | `(tactic| walk_at "sd") => `(tactic| first | with_reducible rfl | assumption | exact SeqD.t | exact SeqD.l | rfl | omega)
local macro_rules | `(tactic| walk_at "dt") => `(tactic| first | assumption | exact Dt.int _ | exact Dt.bl _ | exact Dt.str _ | exact Dt.non | exact Dt.ex (by assumption) (by assumption))
local macro_rules | `(tactic| walk_at "ev") => `(tactic| first
  | assumption
  | with_reducible apply ed_int
  | with_reducible apply ed_str
  | with_reducible apply ed_bl
  | with_reducible apply ed_non
  | with_reducible apply ead_nil
  | with_reducible exact et_yes
  | with_reducible exact eo_none
  | exact evd_var rfl (by walk_at "dt")
  | ((with_reducible apply td_test); walk_at "ev")
  | ((with_reducible apply td_B); walk_at "ev")
  | ((with_reducible apply et_not); walk_at "ev")
  | ((with_reducible apply et_and); walk_at "ev"; intro _; walk_at "ev")
  | ((with_reducible apply et_or); walk_at "ev"; intro _; walk_at "ev")
  | ((with_reducible apply ead_cons); walk_at "ev"; walk_at "ev")
  | ((with_reducible apply eod_some); walk_at "ev")
  | ((with_reducible apply evd_tup); walk_at "ev"; first | decide | (focus (simp; done)) | omega)
  | ((with_reducible apply evd_lst); walk_at "ev"; first | decide | (focus (simp; done)) | omega)
  | ((with_reducible apply ed_not); walk_at "ev")
  | ((with_reducible apply ed_and); walk_at "ev"; intro _; walk_at "ev")
  | ((with_reducible apply ed_or); walk_at "ev"; intro _; walk_at "ev")
  | ((with_reducible apply ed_i0); walk_at "ev"; walk_at "ev")
  | ((with_reducible apply ed_b0); walk_at "ev"; walk_at "ev")
  | ((with_reducible apply ed_eqI); walk_at "ev"; walk_at "ev")
  | ((with_reducible apply ed_eqS); walk_at "ev"; walk_at "ev")
  | ((with_reducible apply ed_eqB); walk_at "ev"; walk_at "ev")
  | ((with_reducible apply ed_neI); walk_at "ev"; walk_at "ev")
  | ((with_reducible apply ed_neS); walk_at "ev"; walk_at "ev")
  | ((with_reducible apply ed_neB); walk_at "ev"; walk_at "ev")
  | ((with_reducible apply ed_isN); walk_at "ev"; walk_at "ev")
  | ((with_reducible apply ed_notN); walk_at "ev"; walk_at "ev")
  | ((with_reducible apply ed_chain); walk_at "ev"; walk_at "ev"; walk_at "ev")
  | ((with_reducible apply ed_ixT); walk_at "ev"; walk_at "ev"; walk_at "sd")
  | ((with_reducible apply ed_ixL); walk_at "ev"; walk_at "ev"; walk_at "sd")
  | ((with_reducible apply ed_isi); walk_at "ev"; (first | exact kit_int _ | exact kit_bool _ | exact kit_tuple _ | exact kit_str _))
  | ((with_reducible apply ed_len); walk_at "ev"; walk_at "sd")
  | ((with_reducible apply ed_call); walk_at "ev"; (first | assumption | exact ⟨_, rfl, rfl⟩ | exact ⟨_, _, rfl, rfl⟩ | exact ⟨_, _, _, rfl, rfl⟩); exact rfl)
  | ((with_reducible apply ed_max2); walk_at "ev"; walk_at "ev")
  | ((with_reducible apply ed_min2); walk_at "ev"; walk_at "ev")
  | ((with_reducible apply ed_list); walk_at "ev"; walk_at "sd")
  | ((with_reducible apply ed_tuple); walk_at "ev"; walk_at "sd")
  | ((with_reducible apply ed_neg); walk_at "ev"))

section
variable {K : PySem.W.Frag} {σ : L2.St} {H : Hp} {te : TE} {g : TG} {tb tz : TS} {D : Ends} {ds : List PyData}
/-- for x in a tuple -/
theorem q_forDT (h : EvD K te σ H (.tuple ds)) (k : ∀ p xs H1, Ex H H1 → SqT K H1 p xs → DtAll K No H1 xs ds → ∃ Pv : Nat → L2.St → Hp → Prop, Pv 0 σ H1 ∧ (∀ i σ' H', Pv i σ' H' → SqT K H' p xs) ∧
    (∀ i x σ' H', xs[i]? = some x → Pv i σ' H' → g x σ' H' fun σ2 H2 => tb { D with nx := Pv (i + 1), ct := Pv (i + 1), bk := tz D } σ2 H2) ∧ ∀ σ' H', Pv xs.length σ' H' → tz D σ' H') : tSeq (tFor (iTup K te) g tb) tz D σ H :=
  h H (Ex.refl H) _ fun v H1 e1 hv => by
    obtain ⟨p, xs, rfl, hs, hd⟩ := hv.toTup
    obtain ⟨Pv, h0, hl, hb, he⟩ := k p xs H1 e1 hs hd
    exact ⟨p, rfl, ⟨xs, hs⟩, for_tup (D := { D with nx := tz D }) Pv h0 (fun i σ' H' _ q => hl i σ' H' q) hb he⟩
end
theorem isWh_thing (x : PyData) {n : Nat} {m : Int} (h : m = (n : Int) - 1) : isWh 0 m x = thingIn n x := by
  subst h
  unfold isWh thingIn
  have e : decide (toI x ≤ (n : Int) - 1) = decide (toI x < (n : Int)) := by
    rw [decide_eq_decide]
    omega
  rw [e]
section
variable {P : Program} {w : World} {K : PySem.W.Frag} {mg : Str → Option Value} {base : Heap} {A0 : Ad} {u : Us}
def spThings (K : PySem.W.Frag) (u : Us) : Sp := fun vs H Q _ => ∃ v ss cs, vs = [v] ∧ Dt K No H v (dHist ss cs) ∧ HistOk ss cs ∧ Tabs (tabsOf u) H ∧ ∀ H', ExtN H H' → Tabs (tabsOf u) H' → Q (.bl true) H'
/-- the things that are asked -/
def askD : List PyData := [.int 0, .int 1, .int 2, .int 3, .int (-1), .int 4, .none, .bool true, .str "0", .tuple [.int 0]]
theorem ask_sh : ∀ d ∈ askD, Rp 20 2 d ∧ d.hasDict = false := by
  have h : ∀ d ∈ askD, d.bulk ≤ 20 ∧ d.depth ≤ 2 ∧ d.showable = true ∧ d.leavesShort 40 = true ∧ d.hasDict = false := by decide +kernel
  intro d hd
  obtain ⟨h1, h2, h3, h4, h5⟩ := h d hd
  exact ⟨⟨h1, h2, h3, h4⟩, h5⟩
theorem c__law_things_good (T : Tx A0 K w mg) (U : Ux K mg base u) : CalG P w K mg base 12 "_law_things_good" (spThings K u) := by
  have c__law_is_whole := c__law_is_whole (P := P) (base := base) T
  have x_history_of_thing := x_history_of_thing (P := P) (base := base) T
  refine calG_of U.things sc__law_things_good (fun vs H Q E h => by obtain ⟨v, ss, cs, rfl, _⟩ := h; rfl) (fun f A outer s H vs Q E hr hgd h => ?_)
  obtain ⟨v, ss, cs, rfl, hv, ok, hT, k⟩ := h
  refine ⟨_, (pss_cons (ps_for PassesOwn.never rfl (pi_tup (pe_tup (pa_cons pe_int (pa_cons pe_int (pa_cons pe_int (pa_cons pe_int (pa_cons (pe_un un_neg pe_int) (pa_cons pe_int (pa_cons pe_non (pa_cons pe_bl (pa_cons pe_str (pa_cons (pe_tup (pa_cons pe_int pa_nil)) pa_nil)))))))))))) (pg_name (i := 1) sc__law_things_good.nd rfl (by first | exact Or.inl rfl | exact Or.inr rfl)) (pss_cons (ps_set (i := 2) sc__law_things_good.nd rfl (by first | exact Or.inl rfl | exact Or.inr rfl) (pe_tup (pa_cons pe_str (pa_cons (pv 1) pa_nil))))
          (pss_cons (ps_if (pt_val (C8.pe_c c__law_is_whole hr (by decide) (by rfl) (pa_cons (pv 1) (pa_cons pe_int (pa_cons (pe_op op_sub (pe_callB call_len_seq (by rfl) T.len (by decide +kernel) (pa_cons (pe_ix ix_tup (pv 0) pe_int (fun _ _ => rfl)) pa_nil)) pe_int) pa_nil))))) (pss_cons (ps_setLc (i := 3) (own := [("_law_one", 4)]) (by rfl) sc__law_things_good.nd rfl rfl (sw_true rfl rfl rfl (by decide +kernel)) (pi_tup (pe_ix ix_tup (pv 0) pe_int (fun _ _ => rfl))) (blkOk_by (N := N__law_things_good) (sc := (C8.fnScope s__law_things_good)) (by decide +kernel)) (fun _ _ _ _ _ => (pg_name (i := 4) sc__law_things_good.nd rfl (by first | exact Or.inl rfl | exact Or.inr rfl))) (fun _ _ _ _ _ => (pts_one (pt_cmpR op_eq (pe_ix (show IxR _ (rIxT K) from ix_tup) (pv 4) pe_int (fun _ _ => rfl)) (pv 1) (nomark _)))) (fun _ _ _ _ _ => (pe_op (show OpR _ _ (rCatA K) from op_catA) (pe_op (show OpR _ _ (rCatA K) from op_catA) (pe_slice (show SlR _ (rSlA K) from sl_tupA) (pv 4) po_none (po_some pe_int)) (pe_tup (pa_cons pe_int pa_nil))) (pe_slice (show SlR _ (rSlA K) from sl_tupA) (pv 4) (po_some pe_int) po_none))))
            (pss_one (ps_set (i := 2) sc__law_things_good.nd rfl (by first | exact Or.inl rfl | exact Or.inr rfl) (pe_lst (pa_cons (pe_tup (pa_cons (pe_tup (pa_cons (pe_ix ix_tup (pe_ix ix_tup (pv 0) pe_int (fun _ _ => rfl)) (pv 1) (fun _ _ => rfl)) pa_nil)) (pa_cons (pe_callTy call_tuple_of (by rfl) T.tuple (by decide +kernel) (pa_cons (pv 3) pa_nil)) pa_nil))) pa_nil))))) pss_nil)
          (pss_one (ps_if (pt_cmpR op_ne (pe_callB (show CallR _ _ (rRepr K) from cr_repr hgd (hu65 hr)) (by rfl) T.repr (by decide +kernel) (pa_cons (pe_heard T (by rfl) U.tt rfl (by unfold tabsOf; exact List.mem_cons_of_mem _ List.mem_cons_self) (hu_t U) hr (lamS_by (sc := (C8.fnScope s__law_things_good)) (by decide +kernel)) rfl (fun _ _ _ _ _ => rfl) (fun A outer s H E f c' hr => pe_cX x_history_of_thing hr (L2.takes_of rfl rfl rfl rfl) (fun _ _ _ _ h => h) (by decide) (by rfl) (pa_cons (pe_var (i := 0) rfl (.inr (.inr rfl))) (pa_cons (pe_var (i := 1) rfl (.inr (.inr rfl))) pa_nil)))) pa_nil)) (pe_callB (show CallR _ _ (rRepr K) from cr_repr hgd (hu65 hr)) (by rfl) T.repr (by decide +kernel) (pa_cons (pv 2) pa_nil)) (nomark _)) (pss_one (ps_ret pe_bl)) pss_nil)))))
        (pss_one (ps_ret pe_bl))), ?_⟩
  try simp only [cxK, cxK2, List.map_cons, List.map_nil]
  have hvt : Dt K No H v (.tuple [dSorts ss, dCalls cs]) := hv
  have hc10 := ok.c10
  have hs4 := ok.s4
  refine q_forDT (evd_tup (K := K) (ds := askD) (ead_cons ed_int (ead_cons ed_int (ead_cons ed_int (ead_cons ed_int (ead_cons (ed_neg ed_int) (ead_cons ed_int (ead_cons ed_non (ead_cons ed_bl (ead_cons ed_str (ead_cons (evd_tup (ead_cons ed_int ead_nil) (by decide)) ead_nil)))))))))) (by decide)) fun p xs H1 e1 hps hxs => ⟨fun i σ' H' => (∃ o1 o2 o3 o4, σ' = [some v, o1, o2, o3, o4]) ∧ Tabs (tabsOf u) H' ∧ ExtN H1 H', ⟨⟨_, _, _, _, rfl⟩, tabs_ex hT e1, extn_ex (Ex.refl _)⟩, fun i σ H q => extn_t q.2.2 hps, fun i x σ' H11 hxi q => ?_, fun σ' H10 q => ?_⟩
  · obtain ⟨⟨o1, o2, o3, o4, rfl⟩, Tq, xq⟩ := q
    obtain ⟨x', hx', hxd⟩ := hxs.get hxi
    obtain ⟨shx, ndx⟩ := ask_sh x' (List.mem_of_getElem? hx')
    have hvq : Dt K No H11 v (.tuple [dSorts ss, dCalls cs]) := (hvt.ex e1).en xq
    have hxd : Dt K No H11 x x' := hxd.en xq
    show tSeq _ _ _ _ _
    refine qd_asg (K := K) (d := .tuple [.str "thing", x']) (evd_tup (ead_cons ed_str (ead_cons (evd_var rfl hxd) ead_nil)) (by show 2 ≤ 100000; decide)) fun due H12 e12 hdue => ?_
    have fin : ∀ (r : Res) (dd : PyData) (H13 : Hp) (o3 o4 : Option V) (dv : V) {D : Ends}, Ex H11 H13 → Dt K No H13 dv dd → (r = if thingIn ss.length x' = true then .ok (dThing ss cs (toI x').toNat) else .er A0.cT x') → (match r with | .ok d => dd = .list [d] | .er _ g => dd = .tuple [.str "thing", g]) → isSeq dd = true → Sh 20000 50 dd →
        (∀ σ' H', ((∃ o1 o2 o3 o4, σ' = [some v, o1, o2, o3, o4]) ∧ Tabs (tabsOf u) H' ∧ ExtN H1 H') → D.nx σ' H') →
        tIfS (tTest (tOp rNe (tCB (rRepr K) (tCons (tLam (tabsOf u) (TTh A0) fun E => tCall (spHistoryOfThing A0 K) [] E (tCons (tVar 0) (tCons (tVar 1) tNil))) tNil)) (tCB (rRepr K) (tCons (tVar 2) tNil)))) (tRet (tC (V.bl false))) tNext D [some v, some x, some dv, o3, o4] H13 := fun r dd H13 o3 o4 dv D e13 hdv hr hdd hq hs hD => by
      have hv13 := hvq.ex e13
      have hx13 := hxd.ex e13
      have args : ∀ H1, ExtN H13 H1 → EvAD K (tCons (tVar 0) (tCons (tVar 1) tNil)) [some v, some x, some dv, o3, o4] H1 [dHist ss cs, x'] := fun H1 x1 => ead_cons (evd_var (d := dHist ss cs) rfl (hv13.en x1)) (ead_cons (evd_var rfl (hx13.en x1)) ead_nil)
      have T13 := tabs_ex Tq e13
      have done : ∀ H', ExtN H13 H' → Tabs (tabsOf u) H' → ∀ H2, Ex H' H2 → D.nx [some v, some x, some dv, o3, o4] H2 := fun H' x1 T1 H2 e2 => hD _ _ ⟨⟨_, _, _, _, rfl⟩, tabs_ex T1 e2, (xq.trans (extn_ex e13)).trans (x1.trans (extn_ex e2))⟩
      have hR : (∃ ss' cs' x, HistOk ss' cs' ∧ [dHist ss cs, x'] = [dHist ss' cs', x] ∧ r = if thingIn ss'.length x = true then .ok (dThing ss' cs' (toI x).toNat) else .er A0.cT x) ∨ ∃ x, [dHist ss cs, x'] = [dWrong, x] ∧ r = .er A0.cH (.str "calls") := .inl ⟨ss, cs, x', ok, rfl, hr⟩
      cases r with
      | ok d =>
        have hdd : dd = .list [d] := hdd
        subst hdd
        exact heard_ok T13 args hR rfl fun v' H' x1 T1 hv' => same_cont hv' rfl hs (by omega) (evd_var rfl (hdv.en x1)) fun H2 e2 => done H' x1 T1 H2 e2
      | er C g =>
        have hdd : dd = .tuple [.str "thing", g] := hdd
        subst hdd
        have hC : C = A0.cT := by
          split at hr
          · cases hr
          · exact (Res.er.inj hr).1
        exact heard_er (nm := "thing") T13 args hR rfl (by rw [hC]; unfold errs; simp) fun v' H' x1 T1 hv' => same_cont hv' rfl hs (by omega) (evd_var rfl (hdv.en x1)) fun H2 e2 => done H' x1 T1 H2 e2
    have hlen : EvD K (tOp (rI0 fun i j => .int (i - j)) (tCB (rLenS K) (tCons (tOp (rIxT K) (tVar 0) (tC (.int 0))) tNil)) (tC (.int 1))) [some v, some x, some due, o3, o4] H12 (.int ((ss.length : Int) - 1)) := ed_i0 (evd_is (ed_len (ed_ixT (i := 0) (d := dSorts ss) (evd_var rfl (hvq.ex e12)) ed_int rfl) .t) (by rw [List.length_map])) ed_int
    refine q_when (b := thingIn ss.length x') (et_is (td_B (K := K) (ed_call (ead_cons (evd_var rfl (hxd.ex e12)) (ead_cons ed_int (ead_cons hlen ead_nil))) ⟨x', 0, (ss.length : Int) - 1, rfl, rfl⟩ rfl)) (isWh_thing x' rfl)) (fun hb H13 e13 => ?_) fun hb H13 e13 => ?_
    · have hb' := hb
      unfold thingIn at hb'
      rw [Bool.and_eq_true, Bool.and_eq_true, decide_eq_true_iff, decide_eq_true_iff] at hb'
      obtain ⟨h1, h2, h3⟩ := hb'
      obtain ⟨i, hi⟩ : ∃ i : Nat, (toI x').toNat = i := ⟨_, rfl⟩
      have ex : x' = .int (i : Int) := by
        rw [← hi, Int.toNat_of_nonneg h2]
        exact isInt_is h1
      have il : i < ss.length := by omega
      rw [← hi] at ex
      subst hi
      have hv13 : Dt K No H13 v (.tuple [dSorts ss, dCalls cs]) := hvq.ex (e12.trans e13)
      have hx13 : Dt K No H13 x (.int (((toI x').toNat : Nat) : Int)) := by
        rw [← ex]
        exact hxd.ex (e12.trans e13)
      obtain ⟨n, hn⟩ : ∃ n, (toI x').toNat = n := ⟨_, rfl⟩
      rw [hn] at hx13 il
      have hat : atI (ss.map Srt.data) (n : Int) = some ((ss.map Srt.data).getD n .none) := by
        refine atI_of rfl ?_
        rw [List.getD_eq_getElem?_getD, List.getElem?_map]
        simp [il]
      have r := evn_lcT (K := K) (σ := [some v, some x, some due, o3, o4]) (H := H13) (tl := tOp (rIxT K) (tVar 0) (tC (.int 1))) (gt := gName 4) (t := tTest (tOp rEq (tOp (rIxT K) (tVar 4) (tC (.int 2))) (tVar 1))) (te := tOp (rCatA K) (tOp (rCatA K) (tSl (rSlA K) (tVar 4) tNoPart (tPart (tC (.int 2)))) (tTup (tCons (tC (.int 0)) tNil))) (tSl (rSlA K) (tVar 4) (tPart (tC (.int 3))) tNoPart)) (vs := [4])
        (fun d => decide (toI ((itemsOf d).getD 2 .none) = (n : Int))) (fun d => .tuple ((itemsOf d).take 2 ++ [.int 0] ++ (itemsOf d).drop 3)) (ed_ixT (ds := [dSorts ss, dCalls cs]) (i := 1) (d := dCalls cs) (evd_var rfl hv13) ed_int rfl) (by rw [List.length_map]; omega) fun d hd y H2 e hy => by
          obtain ⟨c, hc, rfl⟩ := List.mem_map.mp hd
          have hy : Dt K No H2 y (.tuple c.items) := hy
          have hu1 := hx13.ex e
          refine tk_name (td_test (ed_eqI (ed_ixT (ds := c.items) (i := 2) (d := .int c.th) (evd_var rfl hy) ed_int rfl) (evd_var rfl hu1))) (fun _ => evd_cat (evd_cat (sl_to (k := 2) (evd_var rfl hy) ed_int) (evd_tup (ds := [.int 0]) (ead_cons ed_int ead_nil) (by decide)) (by show 2 + 1 ≤ 100000; decide)) (sl_from (k := 3) (evd_var rfl hy) ed_int) (by show 3 + 3 ≤ 100000; decide)) fun _ => ?_
          have h2 : (SB.noL (.int c.b) && (SB.noL (.int c.e) && (SB.noL (.int c.th) && (SB.noL (.str c.wo) && (SB.noL c.giv && (SB.noL c.told && true)))))) = true := (ok.co c hc).noL
          exact h2
      have er : fm (fun d => decide (toI ((itemsOf d).getD 2 .none) = (n : Int))) (fun d => .tuple ((itemsOf d).take 2 ++ [.int 0] ++ (itemsOf d).drop 3)) (cs.map Cl.data) = (cs.filter fun c => decide (c.th = (n : Int))).map dPart := by
        unfold fm
        rw [List.filter_map, List.map_map]
        rfl
      rw [er] at r
      refine qd_asg r.d fun ov H14 e14 hov => ?_
      refine sd_asg (K := K) (d := .list [dThing ss cs n]) (evd_lst (ead_cons (evd_tup (ead_cons (evd_tup (ead_cons (ed_ixT (ed_ixT (ds := [dSorts ss, dCalls cs]) (i := 0) (d := dSorts ss) (evd_var rfl (hv13.ex e14)) ed_int rfl) (evd_var rfl (hx13.ex e14)) hat) ead_nil) (by show 1 ≤ 100000; decide)) (ead_cons (ed_tuple (evd_var rfl hov) .l) ead_nil)) (by show 2 ≤ 100000; decide)) ead_nil) (by show 1 ≤ 100000; decide)) fun due2 H15 e15 hdue2 => ?_
      refine fin (.ok (dThing ss cs n)) (.list [dThing ss cs n]) H15 (some ov) o4 due2 (((e12.trans e13).trans e14).trans e15) hdue2 (by rw [if_pos hb, hn]) rfl rfl ?_ fun σ' H' h => h
      refine sh_hist (fun d hd => ?_) (by show 1 ≤ 4; decide) (fun d hd => ?_) (by rw [List.length_map]; exact Nat.le_trans (List.length_filter_le _ _) (by omega))
      · obtain rfl := List.mem_singleton.mp hd
        rw [List.getD_eq_getElem?_getD, List.getElem?_map, List.getElem?_eq_getElem il]
        exact rp_srt (ok.so _ (List.getElem_mem il))
      · obtain ⟨c, hc, rfl⟩ := List.mem_map.mp hd
        exact rp_part (ok.co c ((List.mem_filter.mp hc).1)) ok.s4
    · refine fin (.er A0.cT x') _ H13 _ _ due (e12.trans e13) (hdue.ex e13) (by rw [if_neg (by rw [hb]; decide)]) rfl rfl ?_ fun σ' H' h => h
      have q := sh_pair (nm := "thing") (n := 20) ⟨by decide, by decide, rfl, by decide +kernel⟩ (shx.up (Nat.le_refl _) (by omega)) (.inl ndx) (by omega)
      exact ⟨q.rp.up (by omega) (Nat.le_refl _), q.nd⟩
  · obtain ⟨⟨o1, o2, o3, o4, rfl⟩, Tq, xq⟩ := q
    exact k H10 ((extn_ex e1).trans xq) Tq
end
end SB
end

section
set_option Elab.async false
set_option linter.all false
set_option maxRecDepth 100000
set_option maxHeartbeats 2000000
set_option autoImplicit false
/-! SbLamD: a lambda with one default (a written int) that is heard. -/
namespace SB
open PySem PySem.Spec PyProof.Rows L2 Evl LamX NdefX
section
variable {X : Cx} {pins : List (Addr × Obj)} {σ : L2.St} {H : Hp} {s : Shared}
/-- behind the making of a code object: it is new, the table tells it -/
theorem told_new {T : List (Addr × Str)} {P c' : Addr} {q : Str} {ps : Array Value} {pos : Pos} {h' : Heap} {o : Obj} {tk : Nat} (I : Inv X pins σ H s) (hT : Tabs T H) (hu : ∀ p ∈ T, p.1 = P → p.2 = q) (hP : H P = some (.tbl ps)) (ht : TriplesOk ps.toList)
    (ha : ∀ (pos : Pos) (cv : Value), codeAmong pos ps.toList = some cv → ∃ c, cv = .ref c ∧ H c = some (CodeO c q)) (hx : PySem.Heap.ExtBut P s.heap h') (hge : s.heap.objs.size ≤ c') (hrec : h'.CodeRec (.ref c') q)
    (htb : h'.get? P = some (PySem.W.tabObj (ps ++ #[rawInt pos.line, rawInt pos.col, .ref c']))) :
    ∃ H1, Inv X pins σ H1 { s with heap := h'.push o, toks := tk } ∧ ExtN H H1 ∧ Tabs T H1 ∧ H1 c' = some (CodeO c' q) ∧ ∀ b, H b = none → b ≠ c' → H1 b = none := by
  have up : ∀ b u, h'.get? b = some u → (h'.push o).get? b = some u := fun b u e => Heap.get?_push_of_some _ e
  have nC := I.hok.fresh hge
  have hco : ∃ (oc : Obj) (us : Array Value) (t : Tok), (h'.push o).get? c' = some oc ∧ oc.data = .fields us ∧ us[1]? = some (.str q t) := by
    obtain ⟨c2, oc, us, t, e, k1, k2, k3⟩ := hrec
    injection e with e
    subst e
    exact ⟨oc, us, t, up _ _ k1, k2, k3⟩
  have J := inv_table (t' := tk) (more := #[rawInt pos.line, rawInt pos.col, .ref c']) I hP (fun b u nb e => up b u (hx b u nb e)) (up _ _ htb) hge hco
  obtain ⟨H1, e1⟩ : ∃ H1, upd (upd H P (.tbl (ps ++ #[rawInt pos.line, rawInt pos.col, .ref c']))) c' (CodeO c' q) = H1 := ⟨_, rfl⟩
  rw [e1] at J
  have atC : H1 c' = some (CodeO c' q) := by
    rw [← e1]
    exact upd_same
  have atP : H1 P = some (.tbl (ps ++ #[rawInt pos.line, rawInt pos.col, .ref c'])) := by
    rw [← e1, upd_ne (ne_of_none hP nC)]
    exact upd_same
  have off : ∀ b, b ≠ c' → b ≠ P → H1 b = H b := fun b n1 n2 => by rw [← e1, upd_ne n1, upd_ne n2]
  have x1 : ExtN H H1 := fun b u e n => by
    rw [off b (ne_of_none e nC) fun z => n ps (Option.some.inj (by rw [← e, z]; exact hP))]
    exact e
  have grown : TabS H1 P q := ⟨_, atP, by
      rw [show (ps ++ #[rawInt pos.line, rawInt pos.col, Value.ref c']).toList = ps.toList ++ [rawInt pos.line, rawInt pos.col, .ref c'] from by simp]
      exact TriplesOk_snoc _ _ _ _ ht, fun p' cv hcv => by
      rw [show (ps ++ #[rawInt pos.line, rawInt pos.col, Value.ref c']).toList = ps.toList ++ [rawInt pos.line, rawInt pos.col, .ref c'] from by simp] at hcv
      rcases among_app _ ht hcv with z | z
      · obtain ⟨c0, k1, k2⟩ := ha p' cv z
        exact ⟨c0, k1, x1 _ _ k2 codeO_ne⟩
      · exact ⟨c', z, atC⟩⟩
  refine ⟨H1, J, x1, fun p hp => ?_, atC, fun b hb n => ?_⟩
  · by_cases e : p.1 = P
    · rw [hu p hp e, e]
      exact grown
    · obtain ⟨us, k1, k2, k3⟩ := hT p hp
      refine ⟨us, (off _ (ne_of_none k1 nC) e).trans k1, k2, fun p' cv hcv => ?_⟩
      obtain ⟨c0, k4, k5⟩ := k3 p' cv hcv
      exact ⟨c0, k4, x1 _ _ k5 codeO_ne⟩
  · rw [off b n (fun z => by rw [z, hP] at hb; cases hb)]
    exact hb
/-- the lambda is made, its default in a tuple at td -/
theorem made_D {T : List (Addr × Str)} {c P : Addr} {params : Arguments} {body : Expr} {scope : Scope} {pos dp : Pos} {i : Int} {j : Nat} {Q : Value → Shared → Prop} (I : Inv X pins σ H s) (TB : TabB X.base X.mg c P) (hcode : X.env.code = .ref c)
    (hm : (P, X.env.qual ++ "<lambda>") ∈ T) (hu : ∀ p ∈ T, p.1 = P → p.2 = X.env.qual ++ "<lambda>") (hT : Tabs T H) (hdf : params.defaults = [.Constant (.int i) j dp]) (hk0 : params.kw_defaults = []) (hfree : ∀ y ∈ scope.names, y.2 = .free → ∃ c, X.env.cells.lookup y.1 = some c)
    (h : ∀ (f c' td : Addr) (t : Tok) (doc pm ctv : Value) (H1 : Hp) (s' : Shared), Inv X pins σ H1 s' → ExtN H H1 → Tabs T H1 → s'.heap.get? f = some (PySem.W.kdv_obj "<lambda>" (X.env.qual ++ "<lambda>") params (.expr body) scope (cloFrom X.env.cells scope.names []) (.ref td) doc pm c' ctv) →
      s'.heap.get? td = some (PySem.W.kdv_tup [.int i t]) → H1 f = none → f ∉ frs X.stack → H1 td = none → td ∉ frs X.stack → H1 c' = some (CodeO c' (X.env.qual ++ "<lambda>")) → Q (.ref f) s') :
    wpAny (model X.prog X.w) X.A (eval (.Lambda params body scope pos) X.env) Q X.xe s := by
  obtain ⟨ps, hP, ht, ha⟩ := hT _ hm
  refine PySem.W.kdv_lam (by rw [hdf]; rfl) hk0 ?_
  rw [hdf]
  refine PySem.W.kdv_all1 (thn ((pe_int (X := X)).run pins s σ H (fun v H1 => v = .int i ∧ H1 = H) I ⟨rfl, rfl⟩) fun u s1 q1 => PySem.W.kdv_all0 ?_)
  obtain ⟨v, H1, I1, r1, rfl, rfl⟩ := q1
  obtain ⟨t, rfl⟩ := r1
  rw [makeFunction_eq]
  simp only [List.zip_nil_right, List.filterMap_nil, List.isEmpty_nil, List.isEmpty_cons, Bool.false_eq_true, if_true, if_false, pure_bind]
  refine wpAny_bind (wpAny_newTextTuple ?_)
  have fit : ∀ a, s1.heap.objs.size ≤ a → H1 a = none ∧ a ∉ frs X.stack := fun a la => ⟨I1.hok.fresh la, fun z => by
    rcases List.mem_cons.mp (I1.stkSub _ z) with e | e
    · have l := I1.lt
      rw [← e] at l
      exact Nat.lt_irrefl _ (Nat.lt_of_lt_of_le l la)
    · exact I1.nofs la e⟩
  have I2 : Inv X pins σ H1 { s1 with heap := s1.heap.push (PySem.W.kdv_tup [.int i t]) } := I1.kept (t' := s1.toks) fun b o e => Heap.get?_push_of_some _ e
  obtain ⟨s2, e2⟩ : ∃ s2 : Shared, { s1 with heap := s1.heap.push (PySem.W.kdv_tup [.int i t]) } = s2 := ⟨_, rfl⟩
  have hz : s2.heap.objs.size = s1.heap.objs.size + 1 := by
    rw [← e2]
    exact Heap.size_push _ _
  have htd : s2.heap.get? s1.heap.objs.size = some (PySem.W.kdv_tup [.int i t]) := by
    rw [← e2]
    exact Heap.get?_push_size _ rfl
  show wpAny _ _ _ _ _ { s1 with heap := s1.heap.push (PySem.W.kdv_tup [.int i t]) }
  rw [e2] at I2 ⊢
  have bP : s2.heap.BuiltinsAt X.mg P := TB.bm.keeps I2.bk
  have tP : s2.heap.get? P = some (PySem.W.tabObj ps) := I2.hok P _ hP
  cases hc : codeAmong pos ps.toList with
  | none =>
    refine PySem.W.kdv_makeTail (mg := X.mg) (closure_ok hfree) I2.ok.glob (I2.mod.glob.keeps I2.bk) hcode (TB.code.keeps I2.bk) tP ht hc TB.gP bP fun c' ctv doc h' tk hx hge hlt hrec htb => ?_
    obtain ⟨H2, J, x1, T1, hco, nn⟩ := told_new (tk := tk) (o := PySem.W.kdv_obj "<lambda>" (X.env.qual ++ "<lambda>") params (.expr body) scope (cloFrom X.env.cells scope.names []) (.ref s1.heap.objs.size) doc ((X.mg "__name__").getD .none) c' ctv) I2 hT hu hP ht ha hx hge hrec htb
    have g1 : s1.heap.objs.size ≤ h'.objs.size := by omega
    have n1 : s1.heap.objs.size ≠ c' := by
      have : s1.heap.objs.size + 1 ≤ c' := by rw [← hz]; exact hge
      exact Nat.ne_of_lt this
    have n2 : s1.heap.objs.size ≠ P := fun z => by
      have := (fit s1.heap.objs.size (Nat.le_refl _)).1
      rw [z, hP] at this
      cases this
    exact h h'.objs.size c' s1.heap.objs.size t doc _ ctv H2 _ J x1 T1 (Heap.get?_push_size _ rfl) (Heap.get?_push_of_some _ (hx _ _ n2 htd)) (nn _ (fit _ g1).1 (Nat.ne_of_gt hlt)) (fit _ g1).2 (nn _ (fit _ (Nat.le_refl _)).1 n1) (fit _ (Nat.le_refl _)).2 hco
  | some cv =>
    obtain ⟨c', rfl, hco⟩ := ha pos cv hc
    refine PySem.W.kdv_makeTailHit (mg := X.mg) (closure_ok hfree) I2.ok.glob (I2.mod.glob.keeps I2.bk) hcode (TB.code.keeps I2.bk) tP ht hc bP fun ctv doc h' tk hx hsz => ?_
    have g1 : s1.heap.objs.size ≤ h'.objs.size := by omega
    have J : Inv X pins σ H1 { s2 with heap := h'.push (PySem.W.kdv_obj "<lambda>" (X.env.qual ++ "<lambda>") params (.expr body) scope (cloFrom X.env.cells scope.names []) (.ref s1.heap.objs.size) doc ((X.mg "__name__").getD .none) c' ctv), toks := tk } := I2.kept fun b o e => Heap.get?_push_of_some _ (hx b o e)
    exact h h'.objs.size c' s1.heap.objs.size t doc _ ctv H1 _ J (ExtN.refl H1) hT (Heap.get?_push_size _ rfl) (Heap.get?_push_of_some _ (hx _ _ htd)) (fit _ g1).1 (fit _ g1).2 (fit _ (Nat.le_refl _)).1 (fit _ (Nat.le_refl _)).2 hco
/-- captured cells hold what they held, behind the start of another frame -/
theorem cells_un {fs : List Addr} {HZ : Hp} {h h1 : Heap} {cl : List (Str × Addr)} {fr : List Str} {ws : List (Option V)} (C : CellsAt cl fr ws h H) (un : Un fs [] H HZ h h1) : CellsAt cl fr ws h1 HZ := by
  have up : ∀ y c, cl.lookup y = some c → ∀ v, h.IsCell c v → h1.IsCell c v := fun y c e v ⟨o, k1, k2⟩ => by
    obtain ⟨sl, k⟩ := un.any k1 (C.all y c e).1 (by simp)
    exact ⟨_, k, k2⟩
  refine ⟨C.len, fun y c e => ?_, C.inj, fun i y e => ?_⟩
  · obtain ⟨n, v, z⟩ := C.all y c e
    have z' := up y c e v z
    obtain ⟨o, k1, _⟩ := z
    exact ⟨un.free c o k1 n (by simp), v, z'⟩
  · obtain ⟨c, k1, k2⟩ := C.has i y e
    exact ⟨c, k1, fun v ev => let ⟨u, r, z⟩ := k2 v ev; ⟨u, r, up y c k1 _ z⟩⟩
end
end SB
end

section
set_option Elab.async false
set_option linter.all false
set_option maxRecDepth 100000
set_option maxHeartbeats 2000000
set_option autoImplicit false
/-! SbLamE: such a lambda is called. -/
namespace SB
open PySem PySem.Spec PyProof.Rows L2 Evl LamX NdefX
abbrev lamF (X : Cx) (params : Arguments) (scope : Scope) (c' : Addr) : NF := ⟨"<lambda>", X.env.qual ++ "<lambda>", params, [], scope, cloFrom X.env.cells scope.names [], c'⟩
/-- the context of its body -/
abbrev lamDCx (X : Cx) (N : List Str) (params : Arguments) (scope : Scope) (f c' : Addr) (A : Around) (outer : List Env) (s : Shared) (H : Hp) (E : XK) : Cx :=
  ncx (L2.CX X.prog X.w) X.prog X.w X.K X.mg X.base N (lamF X params scope c') f A outer s H E
section
variable {X : Cx} {pins : List (Addr × Obj)} {σ : L2.St} {H : Hp} {s : Shared}
/-- x(), in the def that got it -/
theorem act_D {Eg : XK} {Ng N fr : List Str} {js : List Nat} {qg y : Str} {sg : Scope} {g f c' td : Addr} {cdg doc pm ctv : Value} {t : Tok} {i0 : Int} {params : Arguments} {body : Expr} {scope : Scope} {k i : Nat} {a : Str} {pn : List (Addr × Obj)} {xe : Value → Shared → Prop} {W : WX} {E : XK} {tb : TE} {p1 p2 : Pos}
    (I : Inv X pins σ H s) (S : NScope N [y] fr scope) (cp : Caps X (cloFrom X.env.cells scope.names []) fr js)
    (hf : s.heap.get? f = some (PySem.W.kdv_obj "<lambda>" (X.env.qual ++ "<lambda>") params (.expr body) scope (cloFrom X.env.cells scope.names []) (.ref td) doc pm c' ctv)) (htd : s.heap.get? td = some (PySem.W.kdv_tup [.int i0 t]))
    (fn : H f = none) (ff : f ∉ frs X.stack) (tn : H td = none) (tf : td ∉ frs X.stack)
    (hbind : ∀ (s : Shared), s.heap.get? td = some (PySem.W.kdv_tup [.int i0 t]) → BindsTo s (PySem.W.kdv_fn "<lambda>" (X.env.qual ++ "<lambda>") params (.expr body) scope (cloFrom X.env.cells scope.names []) (.ref td) doc pm (.ref c') ctv) ⟨[], []⟩ [(y, .int i0 t)])
    (tk : Takes ((cxOf C8.CX0 X.prog X.w X.K X.mg X.base Ng qg sg g cdg X.A X.stack s H Eg).tr pn xe) W) (hW : ∀ cls d σ' H', E cls d H' → W cls d σ' H') (hr : Room (k + 1) (X.A.deeper (envOfC qg sg s.heap.objs.size g cdg)))
    (hbody : ∀ (A : Around) (outer : List Env) (s : Shared) (H : Hp), Room k (A.deeper (envF (lamF X params scope c') f s.heap.objs.size)) → PE (lamDCx X N params scope f c' A outer s H E) body tb)
    (hN : Ng[i]? = some a) (hv : Vis sg a) (hd : (a == ("__debug__" : Str)) = false := by decide) (hcd : (a == ("__classdict__" : Str)) = false := by decide) :
    PE ((cxOf C8.CX0 X.prog X.w X.K X.mg X.base Ng qg sg g cdg X.A X.stack s H Eg).tr pn xe) (.Call (.Name a p1) [] [] p2)
      (fun σZ HZ Q => σZ[i]? = some (some (.ref f)) ∧ HZ c' = some (CodeO c' (X.env.qual ++ "<lambda>")) ∧ tb (startF N [.int i0] (js.map (slotAt σ))) HZ Q) := by
  refine ⟨fun pinsZ sZ σZ HZ Q IZ ⟨hs, hc, ht⟩ => ?_⟩
  refine wpAny_Call_Name_kw (thn ((pe_var (pos := p1) (i := i) hN hv hd hcd).run pinsZ sZ σZ HZ (fun v H1 => v = .ref f ∧ H1 = HZ) IZ ⟨.ref f, hs, rfl, rfl⟩) fun u s1 qv => ?_)
  obtain ⟨v, H1, J, r1, rfl, rfl⟩ := qv
  obtain rfl : u = Value.ref f := r1
  have un : Un (frs X.stack) [] H H1 s.heap s1.heap := J.base
  have stay : ∀ b o, s.heap.get? b = some o → H b = none → b ∉ frs X.stack → s1.heap.get? b = some o := fun b o e n nf => un.keep b o e n nf (by simp)
  have of1 := stay _ _ hf fn ff
  refine PySem.W.callWith_F0 ⟨_, _, _, _, of1⟩ ?_
  have C1 : CellsAt (lamF X params scope c').cl fr (js.map (slotAt σ)) s1.heap H1 := cells_un (cells_of I cp) un
  have room := hr.hd
  have rc : codeAny (model X.prog X.w) (X.A.deeper (envOfC qg sg s.heap.objs.size g cdg)) (.call (.ref f) ⟨[], []⟩) (CR (L2.CX X.prog X.w) (envOfC qg sg s.heap.objs.size g cdg :: X.stack) X.prog X.w H1 s1 Q E) s1 := by
    refine PySem.W.kla_callFunE hr.depth of1 rfl S.co S.gen rfl (codeO_at J.hok hc) (hbind s1 (stay _ _ htd tn tf) _ _ _ _ ?_)
    refine wpAny_newFunctionEnv S.nocell (fun z hz => ?_) (fun h₁ hns hsb => ⟨J.nolimit.fresh _ hsb, ?_⟩) S.kind
    · obtain rfl := List.mem_singleton.mp hz
      exact S.par y (List.mem_singleton.mpr rfl)
    · have kp : ∀ b o, s1.heap.get? b = some o → h₁.get? b = some o := fun b o e => hsb.extBut b o (Nat.ne_of_lt (Heap.lt_size e)) (Heap.get?_push_of_some _ e)
      have JN : Inv (lamDCx X N params scope f c' (X.A.deeper (envOfC qg sg s.heap.objs.size g cdg)) (envOfC qg sg s.heap.objs.size g cdg :: X.stack) s1 H1 E) [] (startF N [.int i0] (js.map (slotAt σ))) H1 { s1 with heap := h₁, toks := s1.toks + 1 } :=
        inv_startN (F := lamF X params scope c') (us := [.int i0 t]) S hr.hd J.env0 rfl (.cons ⟨t, rfl⟩ .nil) C1 hns kp
      refine PySem.W.kla_codeExpr (wpAny_mono ((hbody _ _ s1 H1 (hr.deeper _)).run [] _ _ H1 Q JN ht) (fun v s' hq => ?_) fun e s' hq => hq)
      obtain ⟨w', H', J', rv, q⟩ := hq
      exact ⟨w', H', J'.os, J'.bare, J'.base, J'.hok, rv, q⟩
  refine wpAny_call (codeAny_mono rc fun r s' hq => ?_)
  cases r with
  | error e => exact passes_call (X := (cxOf C8.CX0 X.prog X.w X.K X.mg X.base Ng qg sg g cdg X.A X.stack s H Eg).tr pn xe) tk hW pinsZ σZ H1 s1 e s' J hq
  | ok fl => cases fl <;> first | exact J.after hq | exact False.elim hq
/-- what the body reads: its parameter, then the captured names -/
def inD (N : List Str) (i0 : Int) (js : List Nat) (t : XK → TE) : XK → TE := fun E σ => t E (startF N [.int i0] (js.map (slotAt σ)))
/-- x(lambda y=i0: body) -/
theorem pe_lamcallD {T : List (Addr × Str)} {TT : (XK → Hp → VK → Prop) → Hp → VK → Prop} {x a y : Str} {g c P : Addr} {k j : Nat} {i0 : Int} {pg : Arguments} {bg : List Stmt} {sg : Scope} {dV kV doc pm cdv ct oc : Value} {an od : Option Addr} {osl : Array (Option Value)} {Ng N fr : List Str} {js : List Nat}
    {params : Arguments} {body : Expr} {scope : Scope} {t : XK → TE} {p lpos pos dp : Pos} (hg : Gl X x) (hm : X.mg x = some (.ref g)) (hk : PySem.W.keepIn X.K (.ref g) = true)
    (lk : X.K.lookup g = some ⟨oc, od, .func (PySem.W.fnOf x x pg bg sg dV kV doc pm an cdv ct), osl⟩) (hcg : PySem.W.codeIn X.K cdv x = true) (hb : L2.Binds X.K (PySem.W.fnOf x x pg bg sg dV kV doc pm an cdv ct) [a] []) (Sg : FnScope Ng [a] sg) (hNg : Ng[0]? = some a) (hva : Vis sg a)
    (hG : GivesTo X Ng x sg g cdv bg a (X.env.qual ++ "<lambda>") TT) (TB : TabB X.base X.mg c P) (hcode : X.env.code = .ref c) (hmT : (P, X.env.qual ++ "<lambda>") ∈ T) (hu : ∀ p ∈ T, p.1 = P → p.2 = X.env.qual ++ "<lambda>") (hr : Room (k + 2) X.A)
    (S : NScope N [y] fr scope) (hsc : ndefB X.env.scope scope fr = true) (hjs : js.map (fun j => X.N[j]?) = fr.map some) (hdf : params.defaults = [.Constant (.int i0) j dp]) (hk0 : params.kw_defaults = [])
    (hbind : ∀ (q : Str) (cl : List (Str × Addr)) (td : Addr) (t : Tok) (doc pm cv ctv : Value) (s : Shared), s.heap.get? td = some (PySem.W.kdv_tup [.int i0 t]) → BindsTo s (PySem.W.kdv_fn "<lambda>" q params (.expr body) scope cl (.ref td) doc pm cv ctv) ⟨[], []⟩ [(y, .int i0 t)])
    (hbody : ∀ (A : Around) (outer : List Env) (s : Shared) (H : Hp) (E : XK) (f c' : Addr), Room k (A.deeper (envF (lamF X params scope c') f s.heap.objs.size)) → PE (lamDCx X N params scope f c' A outer s H E) body (t E))
    (hdb : (x == ("__debug__" : Str)) = false := by decide) (hd : (a == ("__debug__" : Str)) = false := by decide) (hcd : (a == ("__classdict__" : Str)) = false := by decide) :
    PE X (.Call (.Name x p) [.Lambda params body scope lpos] [] pos) (tLam T TT (inD N i0 js t)) := by
  refine ⟨fun pins s σ H Q I ⟨hT, h⟩ => wpAny_Call_Name_kw (ld_glob I hg hm (PySem.W.callWith_K (h₀ := X.base) I.ok.mod.kin hk ?_ (by rfl) (by rfl)) hdb)⟩
  have hfree : ∀ y ∈ scope.names, y.2 = .free → ∃ c, X.env.cells.lookup y.1 = some c := fun y hy e => (ndef_free hsc y hy e).elim (fun z => I.ok.has _ (.inl z)) fun z => I.ok.has _ (.inr z)
  show wpAny _ _ (spliced ((false, eval (.Lambda params body scope lpos) X.env) :: backTo pos (starEach [] X.env))) _ _ s
  refine Calls.spliced_cons (made_D I TB hcode hmT hu hT hdf hk0 hfree fun f c' td t0 doc' pm' ctv H1 s' J eN T1 hf htd fn ff tn tf hco => Calls.spliced_nil ⟨J.kIn, ?_⟩)
  refine wpAny_call (codeAny_mono (R := CR C8.CX0 X.stack X.prog X.w H1 s' Q C8.E0) (run_ofS (N := Ng) (us := [.ref f]) (vs := [.ref f]) lk hcg Sg hr J.env0 (hb s' [.ref f] J.kIn rfl) (.cons rfl .nil) rfl fun hr' => ?_) fun r s2 hq => ?_)
  · obtain ⟨t', ht', hq'⟩ := hG f c' s' H1 Q (fun E H' Q' => inD N i0 js t E σ H' Q') (fun W pn xe E p1 p2 tk hW => act_D J S (Caps.made J.ok (ndef_free hsc) (ndef_fr hsc) hjs) hf htd fn ff tn tf (fun s => hbind _ _ _ _ _ _ _ _ s) tk hW hr' (fun A outer s H hr2 => hbody A outer s H E f c' hr2) hNg hva hd hcd) hco (h H1 eN T1)
    exact ⟨t', ht'.nox, hq'⟩
  · cases r with
    | error e => exact (show False from hq).elim
    | ok fl => cases fl <;> first | exact J.after hq | exact False.elim hq
end
section
variable {X : Cx} {A0 : Ad} {w : World}
theorem pe_heardD {Tb : List (Addr × Str)} {c P : Addr} {k j : Nat} {i0 : Int} {y : Str} {N fr : List Str} {js : List Nat} {params : Arguments} {body : Expr} {scope : Scope} {t : XK → TE} {p lpos pos dp : Pos} (T : Tx A0 X.K w X.mg) (hg : Gl X "_law_heard") (TB : TabB X.base X.mg c P) (hcode : X.env.code = .ref c)
    (hmT : (P, X.env.qual ++ "<lambda>") ∈ Tb) (hu : ∀ p ∈ Tb, p.1 = P → p.2 = X.env.qual ++ "<lambda>") (hr : Room (k + 2) X.A) (S : NScope N [y] fr scope) (hsc : ndefB X.env.scope scope fr = true) (hjs : js.map (fun j => X.N[j]?) = fr.map some) (hdf : params.defaults = [.Constant (.int i0) j dp]) (hk0 : params.kw_defaults = [])
    (hbind : ∀ (q : Str) (cl : List (Str × Addr)) (td : Addr) (t : Tok) (doc pm cv ctv : Value) (s : Shared), s.heap.get? td = some (PySem.W.kdv_tup [.int i0 t]) → BindsTo s (PySem.W.kdv_fn "<lambda>" q params (.expr body) scope cl (.ref td) doc pm cv ctv) ⟨[], []⟩ [(y, .int i0 t)])
    (hbody : ∀ (A : Around) (outer : List Env) (s : Shared) (H : Hp) (E : XK) (f c' : Addr), Room k (A.deeper (envF (lamF X params scope c') f s.heap.objs.size)) → PE (lamDCx X N params scope f c' A outer s H E) body (t E)) :
    PE X (.Call (.Name "_law_heard" p) [.Lambda params body scope lpos] [] pos) (tLam Tb (TTh A0) (inD N i0 js t)) := by
  obtain ⟨g, fd, F, b⟩ := T.d__law_heard.ex
  obtain ⟨oc, od, dV, kV, doc, pm, an, cdv, ct, osl, rfl, lk, hcd⟩ := F.fn.ex
  exact pe_lamcallD hg F.mgf F.kp lk hcd b sc__law_heard rfl (.inl rfl) (heard_gives T) TB hcode hmT hu hr S hsc hjs hdf hk0 hbind hbody
end
end SB
end

section
set_option Elab.async false
set_option linter.all false
set_option maxRecDepth 100000
set_option maxHeartbeats 2000000
set_option autoImplicit false
/-! SbL19: where the law begins. -/
namespace SB
open PySem PySem.Spec PyProof.Rows L2 Evl LamX
abbrev s__law_begin : Stmt := topS 44
abbrev N__law_begin : List Str := ["_law_script", "_law_cells_so", "_law_cell"]
theorem sc__law_begin : FnScope N__law_begin ["_law_script"] (C8.fnScope s__law_begin) := C8.fnScope_by (by decide +kernel)
local macro_rules | `(tactic| walk_at "sd") => `(tactic| first | with_reducible rfl | assumption | exact SeqD.t | exact SeqD.l | rfl | omega)
local macro_rules | `(tactic| walk_at "dt") => `(tactic| first | assumption | exact Dt.int _ | exact Dt.bl _ | exact Dt.str _ | exact Dt.non | exact Dt.ex (by assumption) (by assumption))
local macro_rules | `(tactic| walk_at "ev") => `(tactic| first
  | assumption
  | with_reducible apply ed_int
  | with_reducible apply ed_str
  | with_reducible apply ed_bl
  | with_reducible apply ed_non
  | with_reducible apply ead_nil
  | with_reducible exact et_yes
  | with_reducible exact eo_none
  | exact evd_var rfl (by walk_at "dt")
  | ((with_reducible apply td_test); walk_at "ev")
  | ((with_reducible apply td_B); walk_at "ev")
  | ((with_reducible apply et_not); walk_at "ev")
  | ((with_reducible apply et_and); walk_at "ev"; intro _; walk_at "ev")
  | ((with_reducible apply et_or); walk_at "ev"; intro _; walk_at "ev")
  | ((with_reducible apply ead_cons); walk_at "ev"; walk_at "ev")
  | ((with_reducible apply eod_some); walk_at "ev")
  | ((with_reducible apply evd_tup); walk_at "ev"; first | decide | (focus (simp; done)) | omega)
  | ((with_reducible apply evd_lst); walk_at "ev"; first | decide | (focus (simp; done)) | omega)
  | ((with_reducible apply ed_not); walk_at "ev")
  | ((with_reducible apply ed_and); walk_at "ev"; intro _; walk_at "ev")
  | ((with_reducible apply ed_or); walk_at "ev"; intro _; walk_at "ev")
  | ((with_reducible apply ed_i0); walk_at "ev"; walk_at "ev")
  | ((with_reducible apply ed_b0); walk_at "ev"; walk_at "ev")
  | ((with_reducible apply ed_eqI); walk_at "ev"; walk_at "ev")
  | ((with_reducible apply ed_eqS); walk_at "ev"; walk_at "ev")
  | ((with_reducible apply ed_eqB); walk_at "ev"; walk_at "ev")
  | ((with_reducible apply ed_neI); walk_at "ev"; walk_at "ev")
  | ((with_reducible apply ed_neS); walk_at "ev"; walk_at "ev")
  | ((with_reducible apply ed_neB); walk_at "ev"; walk_at "ev")
  | ((with_reducible apply ed_isN); walk_at "ev"; walk_at "ev")
  | ((with_reducible apply ed_notN); walk_at "ev"; walk_at "ev")
  | ((with_reducible apply ed_chain); walk_at "ev"; walk_at "ev"; walk_at "ev")
  | ((with_reducible apply ed_ixT); walk_at "ev"; walk_at "ev"; walk_at "sd")
  | ((with_reducible apply ed_ixL); walk_at "ev"; walk_at "ev"; walk_at "sd")
  | ((with_reducible apply ed_isi); walk_at "ev"; (first | exact kit_int _ | exact kit_bool _ | exact kit_tuple _ | exact kit_str _))
  | ((with_reducible apply ed_len); walk_at "ev"; walk_at "sd")
  | ((with_reducible apply ed_call); walk_at "ev"; (first | assumption | exact ⟨_, rfl, rfl⟩ | exact ⟨_, _, rfl, rfl⟩ | exact ⟨_, _, _, rfl, rfl⟩); exact rfl)
  | ((with_reducible apply ed_max2); walk_at "ev"; walk_at "ev")
  | ((with_reducible apply ed_min2); walk_at "ev"; walk_at "ev")
  | ((with_reducible apply ed_list); walk_at "ev"; walk_at "sd")
  | ((with_reducible apply ed_tuple); walk_at "ev"; walk_at "sd")
  | ((with_reducible apply ed_neg); walk_at "ev"))

section
variable {K : PySem.W.Frag} {σ : L2.St} {H : Hp} {a : Addr} {ns : List Int}
theorem pairs_go {tk tv : TE} {r : List (TE × TE)} {Q : List (V × V) → Hp → Prop} (h : tk σ H fun x H1 => tv σ H1 fun y H2 => tPairs r σ H2 fun ps H3 => Q ((x, y) :: ps) H3) : tPairs ((tk, tv) :: r) σ H Q := h
theorem c_go {v : V} {Q : VK} (h : Q v H) : tC v σ H Q := h
/-- script's cells, or one -/
theorem begin_cells {Q : VK} (hσ : σ[0]? = some (some (.ref a))) (ha : SqL K H a (ns.map V.int)) (hl : ns.length ≤ 63) (q : ∀ C (cs : List Int) H1, Ex H H1 → H1 C = some (.lst (cs.map V.int)) → 0 < cs.length → cs.length ≤ 63 → Q (.ref C) H1) :
    tIf (tTest (tOp (rNeD K) (tVar 0) (tLst tNil))) (tCB (rListS K) (tCons (tVar 0) tNil)) (tLst (tCons (tC (.int 0)) tNil)) σ H Q := by
  refine ⟨_, hσ, by show 0 ≤ sizeLine; exact Nat.zero_le _, fun p hp => ?_⟩
  have e1 : Ex H (upd H p (.lst [])) := Ex.new hp
  have dl : DpAll K (upd H p (.lst [])) (ns.map V.int) (ns.map PyData.int) := DtAll.dp (B := No) _ _ (hasDict_ints ns) (DtAll.ints ns)
  refine ⟨.list (ns.map PyData.int), .list [], .lst (ex_l e1 ha) dl, .lst (SqL.of upd_same) .nil, PySem.W.shaped_ints ns, PySem.W.shaped_ints [], _, rfl, ?_⟩
  have ev : PyData.eqv (.list (ns.map PyData.int)) (.list []) = decide (ns = []) := eqvL_ints (ns := ns) (ms := [])
  rw [ev]
  cases ns with
  | nil =>
    show tLst (tCons (tC (.int 0)) tNil) σ _ Q
    exact ⟨by show 1 ≤ sizeLine; decide, fun C hC => q C [0] _ (e1.trans (Ex.new hC)) upd_same (by decide) (by decide)⟩
  | cons n r =>
    have hb : (!decide (n :: r = [])) = true := by simp
    rw [hb]
    show tCB (rListS K) (tCons (tVar 0) tNil) σ _ Q
    exact ⟨_, hσ, a, _, rfl, .inl (ex_l e1 ha), fun C hC => q C (n :: r) _ (e1.trans (Ex.new hC)) upd_same (Nat.zero_lt_succ _) hl⟩
end
section
variable {P : Program} {w : World} {K : PySem.W.Frag} {mg : Str → Option Value} {base : Heap} {A0 : Ad}
def spBegin (K : PySem.W.Frag) : Sp := fun vs H Q _ => ∃ (a : Addr) (ns : List Int), vs = [.ref a] ∧ SqL K H a (ns.map V.int) ∧ ns.length ≤ 63 ∧ ∀ z H', Ex H H' → SW z H' 900000 → Q (.ref z.S) H'
theorem c__law_begin (T : Tx A0 K w mg) : C8.Cal P w K mg base 2 "_law_begin" (spBegin K) [] := by
  refine cal_of T.d__law_begin sc__law_begin (fun vs H Q E h => by obtain ⟨a, ns, rfl, _⟩ := h; rfl) (fun f cdv A outer s H vs Q E hr h => ?_)
  obtain ⟨a, ns, rfl, ha, hl, k⟩ := h
  refine ⟨_, (pss_cons (ps_set (i := 1) sc__law_begin.nd rfl (by first | exact Or.inl rfl | exact Or.inr rfl) (pe_ifExp (pt_cmpR (op_neD hr.units) (pv 0) (pe_lst pa_nil) (nomark _)) (pe_callTy call_list_of (by rfl) T.list (by decide +kernel) (pa_cons (pv 0) pa_nil)) (pe_lst (pa_cons pe_int pa_nil))))
        (pss_one (ps_ret (pe_disp (pps_cons pe_str (pv 1) (pps_cons pe_str (pe_lc (own := [("_law_cell", 2)]) (by rfl) sc__law_begin.nd (pi_list (pv 1)) (blkOk_by (N := N__law_begin) (sc := (C8.fnScope s__law_begin)) (by decide +kernel)) (fun _ _ _ _ _ => (pg_name (i := 2) sc__law_begin.nd rfl (by first | exact Or.inl rfl | exact Or.inr rfl))) (fun _ _ _ _ _ => pts_nil) (fun _ _ _ _ _ => (pe_ifExp (pt_cmpR op_ge (pv 2) (pe_op op_pow pe_int pe_int) (nomark _)) (pv 2) pe_int))) (pps_cons pe_str pe_int (pps_cons pe_str pe_int pps_nil)))) (by rfl) (by rfl) (fun z => by cases z) (by decide))))), ?_⟩
  try simp only [cxK, cxK2, List.map_cons, List.map_nil]
  refine asg_go (begin_cells rfl ha hl fun C cs H1 e1 hC h0 h63 => ret_go fun p hp => ?_)
  have e2 : Ex H1 (upd H1 p (.dK [])) := Ex.new hp
  refine pairs_go ⟨_, rfl, pairs_go (c_go ?_)⟩
  refine (lcL_map (K := K) (σ := [some (.ref a), some (.ref C), none]) (tl := tVar 1) (ds := cs.map PyData.int) (fun d => .int (if 10 ^ 18 ≤ toI d then toI d else 0)) (evd_var rfl (.lst (e2 _ _ hC) (fun z => z) (DtAll.ints cs))) (by rw [List.length_map]; omega) (fun _ _ => rfl) fun d hd x H2 e hx => ?_).go fun L xs H3 hL e3 hxs hds => ?_
  · obtain ⟨i, _, rfl⟩ := List.mem_map.mp hd
    refine evd_if (b := decide ((10 : Int) ^ 18 ≤ i)) (td_test (ed_b0 (g := fun i j => decide (j ≤ i)) (evd_var rfl hx) (ed_i (C := CPow) (g := fun i j => i ^ j.toNat) ed_int ed_int (by unfold CPow; decide)))) (fun hb => evd_is (evd_var rfl hx) ?_) fun hb => evd_is ed_int ?_
    · show PyData.int i = .int (if 10 ^ 18 ≤ i then i else 0)
      rw [if_pos (decide_eq_true_iff.mp hb)]
    · show PyData.int 0 = .int (if 10 ^ 18 ≤ i then i else 0)
      rw [if_neg (decide_eq_false_iff_not.mp hb)]
  · obtain ⟨ls, rfl⟩ : ∃ ls : List Int, xs = ls.map V.int := ⟨cs.map fun i => if 10 ^ 18 ≤ i then i else 0, by
      rw [List.map_map] at hds
      exact DtAll.toInts (ns := cs.map fun i => if 10 ^ 18 ≤ i then i else 0) (by rw [List.map_map]; exact hds)⟩
    have hlen : cs.length = ls.length := by
      have := hds.len
      rw [List.length_map, List.length_map, List.length_map] at this
      exact this.symm
    have e03 : Ex H H3 := (e1.trans e2).trans e3
    refine ⟨e3 _ _ upd_same, [(kC, .ref C), (kL, .ref L), (kA, .int 0), (kR, .int 0)], rfl, by show 4 ≤ 15; decide, ?_⟩
    have nC : C ≠ p := ne_of_none hC hp
    have nL : L ≠ p := fun z => by
      rw [z, upd_same] at hL
      cases hL
    refine k ⟨p, C, L⟩ _ ((e1.trans (Ex.mut (e2.trans e3) hp))) ⟨⟨cs, ls, 0, upd_same, ?_, ?_, hlen, h0, by omega, Int.le_refl _, by omega⟩, ?_⟩
    · rw [upd_ne nC]
      exact e3 _ _ (e2 _ _ hC)
    · rw [upd_ne nL]
      exact hxs
    · show C ≠ L
      intro z
      rw [← z, e2 _ _ hC] at hL
      cases hL
end
end SB
end

section
set_option Elab.async false
set_option linter.all false
set_option maxRecDepth 100000
set_option maxHeartbeats 4000000
set_option autoImplicit false
/-! SbL20: the law. -/
namespace SB
open PySem PySem.Spec PyProof.Rows L2 Evl LamX
abbrev s_law : Stmt := topS 68
abbrev N_law : List Str := ["_law_script", "_law_state", "_law_turn", "_law_history_here", "_law_three", "_law_told_so", "_law_one", "_law_four", "_law_wrong", "_law_heard_here"]
theorem sc_law : FnScope N_law ["_law_script"] (C8.fnScope s_law) := C8.fnScope_by (by decide +kernel)
local macro_rules | `(tactic| walk_at "sd") => `(tactic| first | with_reducible rfl | assumption | exact SeqD.t | exact SeqD.l | rfl | omega)
local macro_rules | `(tactic| walk_at "dt") => `(tactic| first | assumption | exact Dt.int _ | exact Dt.bl _ | exact Dt.str _ | exact Dt.non | exact Dt.ex (by assumption) (by assumption))
local macro_rules | `(tactic| walk_at "ev") => `(tactic| first
  | assumption
  | with_reducible apply ed_int
  | with_reducible apply ed_str
  | with_reducible apply ed_bl
  | with_reducible apply ed_non
  | with_reducible apply ead_nil
  | with_reducible exact et_yes
  | with_reducible exact eo_none
  | exact evd_var rfl (by walk_at "dt")
  | ((with_reducible apply td_test); walk_at "ev")
  | ((with_reducible apply td_B); walk_at "ev")
  | ((with_reducible apply et_not); walk_at "ev")
  | ((with_reducible apply et_and); walk_at "ev"; intro _; walk_at "ev")
  | ((with_reducible apply et_or); walk_at "ev"; intro _; walk_at "ev")
  | ((with_reducible apply ead_cons); walk_at "ev"; walk_at "ev")
  | ((with_reducible apply eod_some); walk_at "ev")
  | ((with_reducible apply evd_tup); walk_at "ev"; first | decide | (focus (simp; done)) | omega)
  | ((with_reducible apply evd_lst); walk_at "ev"; first | decide | (focus (simp; done)) | omega)
  | ((with_reducible apply ed_not); walk_at "ev")
  | ((with_reducible apply ed_and); walk_at "ev"; intro _; walk_at "ev")
  | ((with_reducible apply ed_or); walk_at "ev"; intro _; walk_at "ev")
  | ((with_reducible apply ed_i0); walk_at "ev"; walk_at "ev")
  | ((with_reducible apply ed_b0); walk_at "ev"; walk_at "ev")
  | ((with_reducible apply ed_eqI); walk_at "ev"; walk_at "ev")
  | ((with_reducible apply ed_eqS); walk_at "ev"; walk_at "ev")
  | ((with_reducible apply ed_eqB); walk_at "ev"; walk_at "ev")
  | ((with_reducible apply ed_neI); walk_at "ev"; walk_at "ev")
  | ((with_reducible apply ed_neS); walk_at "ev"; walk_at "ev")
  | ((with_reducible apply ed_neB); walk_at "ev"; walk_at "ev")
  | ((with_reducible apply ed_isN); walk_at "ev"; walk_at "ev")
  | ((with_reducible apply ed_notN); walk_at "ev"; walk_at "ev")
  | ((with_reducible apply ed_chain); walk_at "ev"; walk_at "ev"; walk_at "ev")
  | ((with_reducible apply ed_ixT); walk_at "ev"; walk_at "ev"; walk_at "sd")
  | ((with_reducible apply ed_ixL); walk_at "ev"; walk_at "ev"; walk_at "sd")
  | ((with_reducible apply ed_isi); walk_at "ev"; (first | exact kit_int _ | exact kit_bool _ | exact kit_tuple _ | exact kit_str _))
  | ((with_reducible apply ed_len); walk_at "ev"; walk_at "sd")
  | ((with_reducible apply ed_call); walk_at "ev"; (first | assumption | exact ⟨_, rfl, rfl⟩ | exact ⟨_, _, rfl, rfl⟩ | exact ⟨_, _, _, rfl, rfl⟩); exact rfl)
  | ((with_reducible apply ed_max2); walk_at "ev"; walk_at "ev")
  | ((with_reducible apply ed_min2); walk_at "ev"; walk_at "ev")
  | ((with_reducible apply ed_list); walk_at "ev"; walk_at "sd")
  | ((with_reducible apply ed_tuple); walk_at "ev"; walk_at "sd")
  | ((with_reducible apply ed_neg); walk_at "ev"))

/-! ### histories by hand -/
def cellB (cs : List Cl) : Bool := decide (cs.length ≤ 10) && (cs.all (fun c => decide (0 ≤ c.b) && (decide (c.b < c.e) && (decide (c.e ≤ 1000000) && (decide (c.th = 0) && (decide (c.wo ∈ Srt.cell.words) && (canGive c.wo c.giv && canTell c.wo c.told)))))) && (decide (moments cs).Nodup && ((cs.zip (cs.drop 1)).all (fun p => decide (p.1.b < p.2.b)) && decide (giverKeys cs).Nodup)))
theorem hist_cell {cs : List Cl} (h : cellB cs = true) : HistOk [.cell] cs := by
  unfold cellB at h
  simp only [Bool.and_eq_true, decide_eq_true_eq, List.all_eq_true] at h
  obtain ⟨h1, h2, h3, h4, h5⟩ := h
  refine ⟨by decide, by decide, fun s hs => ?_, h1, fun c hc => ?_, h3, fun i c d hc hd => ?_, h5⟩
  · obtain rfl := List.mem_singleton.mp hs
    trivial
  · obtain ⟨a1, a2, a3, a4, a5, a6, a7⟩ := h2 c hc
    exact ⟨a1, a2, a3, ⟨0, .cell, a4, rfl, a5⟩, a6, a7⟩
  · refine h4 (c, d) (List.mem_of_getElem? (i := i) ?_)
    rw [List.getElem?_zip_eq_some]
    refine ⟨hc, ?_⟩
    rw [List.getElem?_drop, Nat.add_comm]
    exact hd
def cs3 : List Cl := [⟨0, 2, 0, "write", .int 1, .none⟩, ⟨1, 3, 0, "write", .int 2, .none⟩, ⟨4, 5, 0, "read", .none, .int 1⟩]
def cs4 : List Cl := [⟨0, 9, 0, "read", .none, .none⟩, ⟨1, 3, 0, "read", .none, .none⟩, ⟨2, 8, 0, "read", .none, .none⟩, ⟨4, 7, 0, "read", .none, .none⟩]
theorem ok3 : HistOk [.cell] cs3 := hist_cell (by decide +kernel)
theorem ok4 : HistOk [.cell] cs4 := hist_cell (by decide +kernel)
theorem ok0 : HistOk [.set] [] := ⟨by decide, by decide, fun s hs => by obtain rfl := List.mem_singleton.mp hs; trivial, by decide, fun _ h => absurd h List.not_mem_nil, by decide, fun _ _ _ h => by simp at h, by decide⟩
def as3 : List (List Int) := [[0, 1, 2], [1, 0, 2], [0, 2, 1], [2, 0, 1], [0, 1], [0, 1, 1]]
def as4 : List (List Int) := [[1, 2, 3, 0], [0, 3, 1, 2], [2, 0, 1, 3]]
def ms4 : List (List Int) := [[0, 9], [1, 3], [2, 8], [4, 7]]
theorem told3 : as3.map (fun ns => orderIn cs3 (tupI ns)) = [true, true, false, false, false, false] := by decide +kernel
theorem told4 : as4.map (fun ns => orderIn cs4 (tupI ns)) = [true, false, true] := by decide +kernel
def dHeard : PyData := .tuple [.str "history", .str "calls"]
section
variable {X : Cx}
/-- what is known but behind a statement -/
theorem pss_ex {body : List Stmt} {α : Type} {t : α → TS} (h : ∀ z, PSs X body (t z)) : PSs X body (fun D σ H => ∃ z, t z D σ H) := ⟨fun pins s σ H D I ⟨z, q⟩ => (h z).run pins s σ H D I q⟩
end
section
variable {K : PySem.W.Frag} {σ : L2.St} {H : Hp} {A0 : Ad} {t u : TT} {tu tz : TS} {D : Ends} {sp : Sp} {ar : TA} {vs : List V} {te te2 : TE} {d : PyData}
theorem q_or (h : t σ H fun c H1 => if c = true then tu { D with nx := tz D } σ H1 else tSeq (tIfS u tu tNext) tz D σ H1) : tSeq (tIfS (tOr t u) tu tNext) tz D σ H := h
theorem notB_go {Q : Bool → Hp → Prop} (h : EvA ar σ H vs) (k : ∀ H1, Ex H H1 → sp vs H1 (fun v H2 => ∃ c, v = .bl c ∧ Q (!c) H2) C8.E0) : tNot (tB (tCall sp [] C8.E0 ar)) σ H Q := callA_go h k
theorem q_orB (h : EvA ar σ H vs) (k : ∀ H1, Ex H H1 → sp vs H1 (fun v H2 => ∃ c, v = .bl c ∧ if (!c) = true then tu { D with nx := tz D } σ H2 else tSeq (tIfS u tu tNext) tz D σ H2) C8.E0) : tSeq (tIfS (tOr (tNot (tB (tCall sp [] C8.E0 ar))) u) tu tNext) tz D σ H := q_or (notB_go h k)
theorem q_notB (h : EvA ar σ H vs) (k : ∀ H1, Ex H H1 → sp vs H1 (fun v H2 => ∃ c, v = .bl c ∧ if (!c) = true then tu { D with nx := tz D } σ H2 else tz D σ H2) C8.E0) : tSeq (tIfS (tNot (tB (tCall sp [] C8.E0 ar))) tu tNext) tz D σ H := notB_go (Q := fun c H2 => if c = true then tu { D with nx := tz D } σ H2 else tz D σ H2) h k
theorem s_notB (h : EvA ar σ H vs) (k : ∀ H1, Ex H H1 → sp vs H1 (fun v H2 => ∃ c, v = .bl c ∧ if (!c) = true then tu D σ H2 else D.nx σ H2) C8.E0) : tIfS (tNot (tB (tCall sp [] C8.E0 ar))) tu tNext D σ H := notB_go (Q := fun c H2 => if c = true then tu D σ H2 else D.nx σ H2) h k
theorem lst2_go {Q : VK} (h : te σ H fun x H1 => te2 σ H1 fun y H2 => 2 ≤ sizeLine ∧ ∀ p, H2 p = none → Q (.ref p) (upd H2 p (.lst [x, y]))) : tLst (tCons te (tCons te2 tNil)) σ H Q := h
/-- [x] * 3 -/
theorem ed_rep3 (h : EvD K te σ H d) : EvD K (tOp rRep (tLst (tCons te tNil)) (tC (.int 3))) σ H (.list [d, d, d]) := fun H1 e Q q => h H1 e _ fun v H2 e2 hv => ⟨by show 1 ≤ sizeLine; decide, fun p hp => by
  have e3 : Ex H2 (upd H2 p (.lst [v])) := Ex.new hp
  refine ⟨p, 3, [v], rfl, rfl, upd_same, by decide, by decide, by show 3 ≤ sizeLine; decide, fun p2 hp2 => ?_⟩
  have e4 := e3.trans (Ex.new (o := .lst [v, v, v]) hp2)
  have hv4 := hv.ex e4
  exact q _ _ (e2.trans e4) (.lst (a := p2) (xs := [v, v, v]) upd_same (fun z => z) (.cons hv4 (.cons hv4 (.cons hv4 .nil))))⟩
/-- a lambda with a default is heard -/
theorem heard_erD {Tb : List (Addr × Str)} {n : Nat} {R : List PyData → Res → Prop} {Q : VK} {ds : List PyData} {C : Addr} {nm : Str} {g : PyData} {N : List Str} {i0 : Int} {js : List Nat} (hT : Tabs Tb H) (h : ∀ H1, ExtN H H1 → EvAD K ar (NdefX.startF N [.int i0] (js.map (NdefX.slotAt σ))) H1 ds)
    (hR : R ds (.er C g)) (hn : ds.length = n) (hC : (C, nm) ∈ errs A0) (k : ∀ v H', ExtN H H' → Tabs Tb H' → Dt K No H' v (.tuple [.str nm, g]) → Q v H') :
    tLam Tb (TTh A0) (inD N i0 js fun E => tCall (spR K n R) [] E ar) σ H Q := ⟨hT, fun H1 x T1 => xr_call (h H1 x) hR hn fun dd y H2 e2 hx hy => ⟨C, nm, y, dd, hC, rfl, rfl, hx, fun p hp =>
    k _ _ (x.trans (extn_ex (e2.trans (Ex.new hp)))) (tabs_ex T1 (e2.trans (Ex.new hp))) (.tup (SqT.of upd_same) (.cons (.str _) (.cons (hy.ex (Ex.new hp)) .nil)))⟩⟩
end
section
variable {P : Program} {w : World} {K : PySem.W.Frag} {mg : Str → Option Value} {base : Heap} {A0 : Ad} {u : Us}
def spLaw (K : PySem.W.Frag) (u : Us) : Sp := fun vs H Q _ => ∃ (a : Addr) (ns : List Int), vs = [.ref a] ∧ SqL K H a (ns.map V.int) ∧ ns.length ≤ 63 ∧ Tabs (tabsOf u) H ∧ ∀ H', Q (.bl true) H'
theorem c_law {f : Addr} {fd : FuncData} (T : Tx A0 K w mg) (U : Ux K mg base u) (F : C8.Fun K "law" "law" (topS 68) f fd) (hc : fd.code = .ref u.cw) : FnG P w K mg base 13 f fd ["_law_script"] (spLaw K u) := by
  have c__law_begin := c__law_begin (P := P) (base := base) T
  have c__law_things_good := c__law_things_good (P := P) (base := base) T U
  have c_is_order := c_is_order (P := P) (base := base) T
  have x_is_order := x_is_order (P := P) (base := base) T
  have x_calls_of_lot := x_calls_of_lot (P := P) (base := base) T
  have x_history_of_thing := x_history_of_thing (P := P) (base := base) T
  refine fnG_of F hc sc_law (fun vs H Q E h => by obtain ⟨a, ns, rfl, _⟩ := h; rfl) (fun A outer s H vs Q E hr hgd h => ?_)
  obtain ⟨a, ns, rfl, ha, hl, hT, k⟩ := h
  refine ⟨_, (pss_cons (ps_set (i := 1) sc_law.nd rfl (by first | exact Or.inl rfl | exact Or.inr rfl) (C8.pe_c c__law_begin hr (by decide) (by rfl) (pa_cons (pv 0) pa_nil))) (pss_ex fun z =>
          have c__law_drawn := c__law_drawn (P := P) (base := base) T z
          have c__law_orders_good := c__law_orders_good (P := P) (base := base) T z
          have c__law_lots_good := c__law_lots_good (P := P) (base := base) T U z
          have c__law_numbers_good := c__law_numbers_good (P := P) (base := base) T z
          (pss_cons (ps_for PassesOwn.never rfl (pi_range1 (by rfl) T.range (pa_cons (pe_op op_add pe_int (pe_callB (call_min2 rfl) (by rfl) T.min (by decide +kernel) (pa_cons (pe_callB call_len_seq (by rfl) T.len (by decide +kernel) (pa_cons (pv 0) pa_nil)) (pa_cons pe_int pa_nil)))) pa_nil)) (pg_name (i := 2) sc_law.nd rfl (by first | exact Or.inl rfl | exact Or.inr rfl)) (pss_cons (ps_set (i := 3) sc_law.nd rfl (by first | exact Or.inl rfl | exact Or.inr rfl) (C8.pe_c c__law_drawn hr (by decide) (by rfl) (pa_cons (pv 1) (pa_cons pe_int (pa_cons pe_int pa_nil)))))
          (pss_cons (ps_if (PW.pt (pw_or (pt_not (pt_val (C8.pe_c c__law_orders_good hr (by decide) (by rfl) (pa_cons (pv 1) (pa_cons (pv 3) pa_nil))))) (pw_or (pt_not (pt_val (pe_cG c__law_lots_good hr hgd (by decide) (by rfl) (pa_cons (pv 1) (pa_cons (pv 3) pa_nil))))) (pw_or1 (pt_not (pt_val (pe_cG c__law_things_good hr hgd (by decide) (by rfl) (pa_cons (pv 3) pa_nil)))))))) (pss_one (ps_ret pe_bl)) pss_nil)
          (pss_one (ps_if (pt_not (pt_val (C8.pe_c c__law_numbers_good hr (by decide) (by rfl) (pa_cons (pv 1) (pa_cons (pv 3) pa_nil))))) (pss_one (ps_ret pe_bl)) pss_nil)))))
        (pss_cons (ps_set (i := 4) sc_law.nd rfl (by first | exact Or.inl rfl | exact Or.inr rfl) (pe_tup (pa_cons (pe_tup (pa_cons pe_str pa_nil)) (pa_cons (pe_tup (pa_cons (pe_tup (pa_cons pe_int (pa_cons pe_int (pa_cons pe_int (pa_cons pe_str (pa_cons pe_int (pa_cons pe_non pa_nil))))))) (pa_cons (pe_tup (pa_cons pe_int (pa_cons pe_int (pa_cons pe_int (pa_cons pe_str (pa_cons pe_int (pa_cons pe_non pa_nil))))))) (pa_cons (pe_tup (pa_cons pe_int (pa_cons pe_int (pa_cons pe_int (pa_cons pe_str (pa_cons pe_non (pa_cons pe_int pa_nil))))))) pa_nil)))) pa_nil))))
        (pss_cons (ps_setLc (i := 5) (own := [("_law_one", 6)]) (by rfl) sc_law.nd rfl rfl (sw_true rfl rfl rfl (by decide +kernel)) (pi_tup (pe_tup (pa_cons (pe_tup (pa_cons pe_int (pa_cons pe_int (pa_cons pe_int pa_nil)))) (pa_cons (pe_tup (pa_cons pe_int (pa_cons pe_int (pa_cons pe_int pa_nil)))) (pa_cons (pe_tup (pa_cons pe_int (pa_cons pe_int (pa_cons pe_int pa_nil)))) (pa_cons (pe_tup (pa_cons pe_int (pa_cons pe_int (pa_cons pe_int pa_nil)))) (pa_cons (pe_tup (pa_cons pe_int (pa_cons pe_int pa_nil))) (pa_cons (pe_tup (pa_cons pe_int (pa_cons pe_int (pa_cons pe_int pa_nil)))) pa_nil)))))))) (blkOk_by (N := N_law) (sc := (C8.fnScope s_law)) (by decide +kernel)) (fun _ _ _ _ _ => (pg_name (i := 6) sc_law.nd rfl (by first | exact Or.inl rfl | exact Or.inr rfl))) (fun _ _ _ _ _ => pts_nil) (fun _ _ _ _ _ => (C8.pe_c c_is_order hr (by decide) (by rfl) (pa_cons (pv 4) (pa_cons (pv 6) pa_nil)))))
        (pss_cons (ps_if (pt_cmpR (op_neD hr.units) (pv 5) (pe_lst (pa_cons pe_bl (pa_cons pe_bl (pa_cons pe_bl (pa_cons pe_bl (pa_cons pe_bl (pa_cons pe_bl pa_nil))))))) (nomark _)) (pss_one (ps_ret pe_bl)) pss_nil)
        (pss_cons (ps_set (i := 7) sc_law.nd rfl (by first | exact Or.inl rfl | exact Or.inr rfl) (pe_callTy call_tuple_of (by rfl) T.tuple (by decide +kernel) (pa_cons (pe_lc (own := [("_law_one", 6)]) (by rfl) sc_law.nd (pi_tup (pe_tup (pa_cons (pe_tup (pa_cons pe_int (pa_cons pe_int pa_nil))) (pa_cons (pe_tup (pa_cons pe_int (pa_cons pe_int pa_nil))) (pa_cons (pe_tup (pa_cons pe_int (pa_cons pe_int pa_nil))) (pa_cons (pe_tup (pa_cons pe_int (pa_cons pe_int pa_nil))) pa_nil)))))) (blkOk_by (N := N_law) (sc := (C8.fnScope s_law)) (by decide +kernel)) (fun _ _ _ _ _ => (pg_name (i := 6) sc_law.nd rfl (by first | exact Or.inl rfl | exact Or.inr rfl))) (fun _ _ _ _ _ => pts_nil) (fun _ _ _ _ _ => (pe_op (show OpR _ _ (rCatA K) from op_catA) (pv 6) (pe_tup (pa_cons pe_int (pa_cons pe_str (pa_cons pe_non (pa_cons pe_non pa_nil)))))))) pa_nil)))
        (pss_cons (ps_if (pt_cmpR (op_neD hr.units) (pe_lc (own := [("_law_one", 6)]) (by rfl) sc_law.nd (pi_tup (pe_tup (pa_cons (pe_tup (pa_cons pe_int (pa_cons pe_int (pa_cons pe_int (pa_cons pe_int pa_nil))))) (pa_cons (pe_tup (pa_cons pe_int (pa_cons pe_int (pa_cons pe_int (pa_cons pe_int pa_nil))))) (pa_cons (pe_tup (pa_cons pe_int (pa_cons pe_int (pa_cons pe_int (pa_cons pe_int pa_nil))))) pa_nil))))) (blkOk_by (N := N_law) (sc := (C8.fnScope s_law)) (by decide +kernel)) (fun _ _ _ _ _ => (pg_name (i := 6) sc_law.nd rfl (by first | exact Or.inl rfl | exact Or.inr rfl))) (fun _ _ _ _ _ => pts_nil) (fun _ _ _ _ _ => (C8.pe_c c_is_order hr (by decide) (by rfl) (pa_cons (pe_tup (pa_cons (pe_tup (pa_cons pe_str pa_nil)) (pa_cons (pv 7) pa_nil))) (pa_cons (pv 6) pa_nil))))) (pe_lst (pa_cons pe_bl (pa_cons pe_bl (pa_cons pe_bl pa_nil)))) (nomark _)) (pss_one (ps_ret pe_bl)) pss_nil)
        (pss_cons (ps_set (i := 8) sc_law.nd rfl (by first | exact Or.inl rfl | exact Or.inr rfl) (pe_tup (pa_cons (pe_tup (pa_cons pe_str pa_nil)) (pa_cons (pe_tup (pa_cons pe_non pa_nil)) pa_nil))))
        (pss_cons (ps_set (i := 9) sc_law.nd rfl (by first | exact Or.inl rfl | exact Or.inr rfl) (pe_lst (pa_cons (pe_heard T (by rfl) U.tw rfl (by unfold tabsOf; exact List.mem_cons_of_mem _ (List.mem_cons_of_mem _ List.mem_cons_self)) (hu_w U) hr (lamS_by (sc := (C8.fnScope s_law)) (by decide +kernel)) rfl (fun _ _ _ _ _ => rfl) (fun A outer s H E f c' hr => pe_cX x_is_order hr (L2.takes_of rfl rfl rfl rfl) (fun _ _ _ _ h => h) (by decide) (by rfl) (pa_cons (pe_var (i := 8) rfl (.inr (.inr rfl))) (pa_cons pe_non pa_nil)))) (pa_cons (pe_heardD (N := ["_law_own", "_law_wrong"]) (fr := ["_law_wrong"]) (js := [8]) (i0 := 0) (y := "_law_own") T (by rfl) U.tw rfl (by unfold tabsOf; exact List.mem_cons_of_mem _ (List.mem_cons_of_mem _ List.mem_cons_self)) (hu_w U) hr (NdefX.nscope_by (by decide +kernel)) (show NdefX.ndefB (C8.fnScope s_law) _ _ = true from by decide +kernel) rfl rfl rfl (fun q cl td t doc pm cv ctv s e => BindsTo.of_defaults rfl e rfl rfl rfl) (fun A outer s H E f c' hr => pe_cX x_calls_of_lot hr (L2.takes_of rfl rfl rfl rfl) (fun _ _ _ _ h => h) (by decide) (by rfl) (pa_cons (pe_var (i := 1) rfl (.inr (.inr rfl))) (pa_cons pe_non pa_nil)))) pa_nil))))
        (pss_cons (ps_expr (pe_bm PySem.F.plainAttrs_list PySem.F.slot_list_append PySem.F.type_list_append mt_append (pv 9) (pa_cons (pe_heard T (by rfl) U.tw rfl (by unfold tabsOf; exact List.mem_cons_of_mem _ (List.mem_cons_of_mem _ List.mem_cons_self)) (hu_w U) hr (lamS_by (sc := (C8.fnScope s_law)) (by decide +kernel)) rfl (fun _ _ _ _ _ => rfl) (fun A outer s H E f c' hr => pe_cX x_history_of_thing hr (L2.takes_of rfl rfl rfl rfl) (fun _ _ _ _ h => h) (by decide) (by rfl) (pa_cons (pe_var (i := 8) rfl (.inr (.inr rfl))) (pa_cons pe_non pa_nil)))) pa_nil)))
        (pss_one (ps_ret (pe_and (pe_cmpR (op_eqD hr.units) (pv 9) (pe_op op_rep (pe_lst (pa_cons (pe_tup (pa_cons pe_str (pa_cons pe_str pa_nil))) pa_nil)) pe_int) (nomark _)) (pe_one (pe_cmpR op_isBl (C8.pe_c c_is_order hr (by decide) (by rfl) (pa_cons (pe_tup (pa_cons (pe_tup (pa_cons pe_str pa_nil)) (pa_cons (pe_tup pa_nil) pa_nil))) (pa_cons (pe_tup pa_nil) pa_nil))) pe_bl (nomark _))))))))))))))))), ?_⟩
  try simp only [cxK, cxK2, List.map_cons, List.map_nil]
  refine asg_go (callA_go (ea_cons (ev_var rfl) ea_nil) fun H0 e0 => ⟨a, ns, rfl, ex_l e0 ha, hl, fun z H1 e1 sw => ⟨z, ?_⟩⟩)
  have ha1 := ex_l (e0.trans e1) ha
  have hT1 := tabs_ex hT (e0.trans e1)
  have hlm : ((ns.map V.int).length : Int) ≤ 63 := by
    rw [List.length_map]
    omega
  have n8 : (4 : Int) + (if (4 : Int) < ((ns.map V.int).length : Int) then 4 else ((ns.map V.int).length : Int)) ≤ 8 := by
    split <;> omega
  have n0 : 0 ≤ (4 : Int) + (if (4 : Int) < ((ns.map V.int).length : Int) then 4 else ((ns.map V.int).length : Int)) := by
    split <;> omega
  refine q_forR1 (n := (4 : Int) + (if (4 : Int) < ((ns.map V.int).length : Int) then 4 else ((ns.map V.int).length : Int))) (ea_cons (EvD.i (K := K) (ed_i0 (g := fun i j => i + j) (ed_int (i := 4)) (ed_min2 (evd_i (ev_len (ev_var rfl) ha1)) (ed_int (i := 4))))) ea_nil) ⟨n0, by omega⟩
    (fun i σ' H' => (∃ o2 o3, σ' = [some (.ref a), some (.ref z.S), o2, o3, none, none, none, none, none, none]) ∧ SW z H' (1000 * (8 - i)) ∧ Tabs (tabsOf u) H') (fun H2 e2 => ⟨⟨_, _, rfl⟩, (sw.mono e2).le (by omega), tabs_ex hT1 e2⟩) (fun i σ' H' hi q => ?_) fun σ' H' q => ?_
  · obtain ⟨⟨o2, o3, rfl⟩, swq, Tq⟩ := q
    have hi : i < 8 := by omega
    rw [show 1000 * (8 - i) = 1000 * (8 - (i + 1)) + 1000 by omega] at swq
    obtain ⟨j, hj⟩ : ∃ j, 1000 * (8 - (i + 1)) = j := ⟨_, rfl⟩
    rw [hj] at swq
    show tSeq _ _ _ _ _
    refine asg_go (callA_go (ea_cons (ev_var rfl) (ea_cons ev_c (ea_cons ev_c ea_nil))) fun H2 e2 => ⟨j + 900, rfl, (swq.mono e2).le (by omega), fun v H3 ss cs kp3 sw3 ok hv => ?_⟩)
    have T3 := tabs_kp (tabs_ex Tq e2) (swq.mono e2) kp3
    refine q_orB (ea_cons (ev_var rfl) (ea_cons (ev_var rfl) ea_nil)) fun H4 e4 => ⟨v, ss, cs, j + 800, rfl, hv.ex e4, ok, (sw3.mono e4).le (by omega), fun H5 kp5 sw5 => ⟨true, rfl, ?_⟩⟩
    have T5 := tabs_kp (tabs_ex T3 e4) (sw3.mono e4) kp5
    have hv5 := kp_noL (hv.ex e4) ok.noL kp5
    rw [if_neg (show ¬ ((!true) = true) by decide)]
    refine q_orB (ea_cons (ev_var rfl) (ea_cons (ev_var rfl) ea_nil)) fun H6 e6 => ⟨v, ss, cs, j + 700, rfl, hv5.ex e6, ok, (sw5.mono e6).le (by omega), tabs_ex T5 e6, fun H7 k7 sw7 T7 => ⟨true, rfl, ?_⟩⟩
    have hv7 := k7 v _ ok.noL (hv5.ex e6)
    rw [if_neg (show ¬ ((!true) = true) by decide)]
    refine q_notB (ea_cons (ev_var rfl) ea_nil) fun H8 e8 => ⟨v, ss, cs, rfl, hv7.ex e8, ok, tabs_ex T7 e8, fun H9 x9 T9 => ⟨true, rfl, ?_⟩⟩
    have hv9 := (hv7.ex e8).en x9
    have sw9 := (sw7.mono e8).en x9
    rw [if_neg (show ¬ ((!true) = true) by decide)]
    refine s_notB (ea_cons (ev_var rfl) (ea_cons (ev_var rfl) ea_nil)) fun H10 e10 => ⟨v, ss, cs, j + 600, rfl, hv9.ex e10, ok, (sw9.mono e10).le (by omega), fun H11 kp11 sw11 => ⟨true, rfl, ?_⟩⟩
    rw [if_neg (show ¬ ((!true) = true) by decide)]
    refine ⟨⟨_, _, rfl⟩, ?_, tabs_kp (tabs_ex T9 e10) (sw9.mono e10) kp11⟩
    rw [hj]
    exact sw11.le (by omega)
  · obtain ⟨⟨o2, o3, rfl⟩, swq, Tq⟩ := q
    have m3 : ∀ l ∈ as3, (itemsOf (tupI l)).length ≤ 20000 := by decide
    have m4 : ∀ l ∈ as4, (itemsOf (tupI l)).length ≤ 20000 := by decide
    -- three
    refine qd_asg (K := K) (d := dHist [.cell] cs3) (evd_tup (ead_cons (evd_tup (ead_cons ed_str ead_nil) (by decide)) (ead_cons (evd_tup (ead_cons (evd_tup (ead_cons ed_int (ead_cons ed_int (ead_cons ed_int (ead_cons ed_str (ead_cons ed_int (ead_cons ed_non ead_nil)))))) (by decide)) (ead_cons (evd_tup (ead_cons ed_int (ead_cons ed_int (ead_cons ed_int (ead_cons ed_str (ead_cons ed_int (ead_cons ed_non ead_nil)))))) (by decide))
      (ead_cons (evd_tup (ead_cons ed_int (ead_cons ed_int (ead_cons ed_int (ead_cons ed_str (ead_cons ed_non (ead_cons ed_int ead_nil)))))) (by decide)) ead_nil))) (by decide)) ead_nil)) (by decide)) fun v4 H1 e1 hv4 => ?_
    -- what is told of them
    refine qd_asg (K := K) (d := .list (([true, true, false, false, false, false] : List Bool).map PyData.bool)) (EvN.d (evn_is (lcT_map (ds := as3.map tupI) (fun x => .bool (orderIn cs3 x)) (evd_tup (ead_cons (evd_tup (ead_cons ed_int (ead_cons ed_int (ead_cons ed_int ead_nil))) (by decide)) (ead_cons (evd_tup (ead_cons ed_int (ead_cons ed_int (ead_cons ed_int ead_nil))) (by decide)) (ead_cons (evd_tup (ead_cons ed_int (ead_cons ed_int (ead_cons ed_int ead_nil))) (by decide))
      (ead_cons (evd_tup (ead_cons ed_int (ead_cons ed_int (ead_cons ed_int ead_nil))) (by decide)) (ead_cons (evd_tup (ead_cons ed_int (ead_cons ed_int ead_nil)) (by decide)) (ead_cons (evd_tup (ead_cons ed_int (ead_cons ed_int (ead_cons ed_int ead_nil))) (by decide)) ead_nil)))))) (by decide)) (by decide) (fun _ _ => rfl) fun d hd x H2 e2 hx => ?_) ?_)) fun v5 H2 e2 hv5 => ?_
    · obtain ⟨l, hl, rfl⟩ := List.mem_map.mp hd
      exact ed_call (ead_cons (evd_var rfl (hv4.ex e2)) (ead_cons (evd_var rfl hx) ead_nil)) ⟨[.cell], cs3, _, ok3, m3 l hl, rfl, rfl⟩ rfl
    · rw [List.map_map, ← told3, List.map_map]
      rfl
    refine q_skip (td_test (K := K) (ed_neD (evd_var rfl hv5) (evd_lst (ead_cons ed_bl (ead_cons ed_bl (ead_cons ed_bl (ead_cons ed_bl (ead_cons ed_bl (ead_cons ed_bl ead_nil)))))) (by decide)) (by decide +kernel) (by decide +kernel))) (by decide +kernel) fun H3 e3 => ?_
    -- four
    refine qd_asg (K := K) (d := dCalls cs4) (ed_tuple (d := .list _) (EvN.d (evn_is (ds := (ms4.map tupI).map fun d => .tuple (itemsOf d ++ [.int 0, .str "read", .none, .none])) (es := cs4.map Cl.data) (lcT_map (fun d => .tuple (itemsOf d ++ [.int 0, .str "read", .none, .none])) (evd_tup (ead_cons (evd_tup (ead_cons ed_int (ead_cons ed_int ead_nil)) (by decide)) (ead_cons (evd_tup (ead_cons ed_int (ead_cons ed_int ead_nil)) (by decide)) (ead_cons (evd_tup (ead_cons ed_int (ead_cons ed_int ead_nil)) (by decide))
      (ead_cons (evd_tup (ead_cons ed_int (ead_cons ed_int ead_nil)) (by decide)) ead_nil)))) (by decide)) (by decide) (fun d hd => ?_) fun d hd x H4 e4 hx => ?_) rfl)) .l) fun v7 H4 e4 hv7 => ?_
    · have hd : d ∈ ms4.map tupI := hd
      obtain ⟨l, _, rfl⟩ := List.mem_map.mp hd
      exact noLs_app (noLs_ints l) rfl
    · have hd : d ∈ ms4.map tupI := hd
      obtain ⟨l, hl, rfl⟩ := List.mem_map.mp hd
      have hl2 : ∀ l ∈ ms4, (l.map PyData.int).length + 4 ≤ 100000 := by decide
      exact evd_cat (ds := l.map PyData.int) (es := [.int 0, .str "read", .none, .none]) (evd_var rfl hx) (evd_tup (ead_cons ed_int (ead_cons ed_str (ead_cons ed_non (ead_cons ed_non ead_nil)))) (by decide)) (hl2 l hl)
    -- what is told of them
    refine q_skip (td_test (K := K) (ed_neD (d := .list (([true, false, true] : List Bool).map PyData.bool)) (EvN.d (evn_is (lcT_map (ds := as4.map tupI) (fun x => .bool (orderIn cs4 x)) (evd_tup (ead_cons (evd_tup (ead_cons ed_int (ead_cons ed_int (ead_cons ed_int (ead_cons ed_int ead_nil)))) (by decide)) (ead_cons (evd_tup (ead_cons ed_int (ead_cons ed_int (ead_cons ed_int (ead_cons ed_int ead_nil)))) (by decide)) (ead_cons (evd_tup (ead_cons ed_int (ead_cons ed_int (ead_cons ed_int (ead_cons ed_int ead_nil)))) (by decide)) ead_nil))) (by decide)) (by decide) (fun _ _ => rfl) fun d hd x H5 e5 hx => ?_) ?_))
      (evd_lst (ead_cons ed_bl (ead_cons ed_bl (ead_cons ed_bl ead_nil))) (by decide)) (by decide +kernel) (by decide +kernel))) (by decide +kernel) fun H5 e5 => ?_
    · obtain ⟨l, hl, rfl⟩ := List.mem_map.mp hd
      exact ed_call (ead_cons (evd_tup (ds := [dSorts [.cell], dCalls cs4]) (ead_cons (evd_tup (ead_cons ed_str ead_nil) (by decide)) (ead_cons (evd_var rfl (hv7.ex e5)) ead_nil)) (by show 2 ≤ 100000; decide)) (ead_cons (evd_var rfl hx) ead_nil)) ⟨[.cell], cs4, _, ok4, m4 l hl, rfl, rfl⟩ rfl
    · rw [List.map_map, ← told4, List.map_map]
      rfl
    -- what is refused
    refine qd_asg (K := K) (d := dWrong) (evd_tup (ead_cons (evd_tup (ead_cons ed_str ead_nil) (by decide)) (ead_cons (evd_tup (ead_cons ed_non ead_nil) (by decide)) ead_nil)) (by decide)) fun v8 H6 e6 hv8 => ?_
    have T6 : Tabs (tabsOf u) H6 := tabs_ex Tq (((((e1.trans e2).trans e3).trans e4).trans e5).trans e6)
    have cH : (A0.cH, ("history" : Str)) ∈ errs A0 := by
      unfold errs
      exact List.mem_cons_self
    refine asg_go (lst2_go (heard_er (K := K) (C := A0.cH) (g := .str "calls") T6 (fun H1 x1 => ead_cons (evd_var rfl (hv8.en x1)) (ead_cons ed_non ead_nil)) ⟨.none, rfl, rfl⟩ rfl cH fun y1 H7 x7 T7 hy1 => ?_))
    have hv8' := hv8.en x7
    refine heard_erD (K := K) (C := A0.cH) (g := .str "calls") T7 (fun H1 x1 => ead_cons (evd_var rfl (hv8'.en x1)) (ead_cons ed_non ead_nil)) (.inr ⟨.none, rfl, rfl⟩) rfl cH fun y2 H8 x8 T8 hy2 => ⟨by show 2 ≤ sizeLine; decide, fun p hp => ?_⟩
    have e9 : Ex H8 (upd H8 p (.lst [y1, y2])) := Ex.new hp
    have T9 := tabs_ex T8 e9
    have hv9 := (hv8'.en x8).ex e9
    have y1' := (hy1.en x8).ex e9
    have y2' := hy2.ex e9
    have hp9 : upd H8 p (.lst [y1, y2]) p = some (.lst [y1, y2]) := upd_same
    have np := hp
    generalize upd H8 p (.lst [y1, y2]) = H9 at T9 hv9 y1' y2' hp9 ⊢
    refine ⟨_, rfl, Or.inl ⟨rfl, _, sq_of hp9⟩, ?_⟩
    refine heard_er (K := K) (C := A0.cH) (g := .str "calls") T9 (fun H1 x1 => ead_cons (evd_var rfl (hv9.en x1)) (ead_cons ed_non ead_nil)) (.inr ⟨.none, rfl, rfl⟩) rfl cH fun y3 H10 x10 T10 hy3 => ?_
    have hp10 : H10 p = some (.lst [y1, y2]) := x10 _ _ hp9 (fun _ z => by cases z)
    refine ⟨p, _, y3, rfl, rfl, hp10, by show 2 < sizeLine; decide, ?_⟩
    have kpp := kp_lst (o := .lst ([y1, y2] ++ [y3])) hp10
    have noH : noL dHeard = true := rfl
    have y1f : Dt K No (upd H10 p (.lst ([y1, y2] ++ [y3]))) y1 dHeard := kp_noL (y1'.en x10) noH kpp
    have y2f : Dt K No (upd H10 p (.lst ([y1, y2] ++ [y3]))) y2 dHeard := kp_noL (y2'.en x10) noH kpp
    have y3f : Dt K No (upd H10 p (.lst ([y1, y2] ++ [y3]))) y3 dHeard := kp_noL hy3 noH kpp
    have hf : Dt K No (upd H10 p (.lst ([y1, y2] ++ [y3]))) (.ref p) (.list [dHeard, dHeard, dHeard]) := .lst upd_same (fun z => z) (.cons y1f (.cons y2f (.cons y3f .nil)))
    refine sd_ret (K := K) (d := .bool true) (evd_is (ed_and (a := true) (b := true) (evd_is (ed_eqD (evd_var rfl hf) (ed_rep3 (evd_tup (ead_cons ed_str (ead_cons ed_str ead_nil)) (by decide))) (by decide +kernel) (by decide +kernel)) (congrArg PyData.bool (show PyData.eqv (.list [dHeard, dHeard, dHeard]) (.list [dHeard, dHeard, dHeard]) = true from by decide +kernel))) fun _ => evd_is (ed_isB (i := true) (j := true) (evd_is (ed_call (ead_cons (evd_tup (ds := [dSorts [.set], dCalls []]) (ead_cons (evd_tup (ead_cons ed_str ead_nil) (by decide)) (ead_cons (evd_tup ead_nil (by decide)) ead_nil)) (by show 2 ≤ 100000; decide)) (ead_cons (evd_tup ead_nil (by decide)) ead_nil)) ⟨[.set], [], .tuple [], ok0, by decide, rfl, rfl⟩ rfl) (congrArg PyData.bool (show orderIn [] (.tuple []) = true from by decide +kernel))) ed_bl) rfl) rfl) fun v2 H11 e11 hv2 => ?_
    rw [hv2.toBl]
    exact k H11
end
end SB
end

section
set_option Elab.async false
set_option linter.all false
set_option maxRecDepth 100000
set_option maxHeartbeats 2000000
set_option autoImplicit false
/-! SbEnd: the law's call where no repr is under way. -/
namespace SB
open PySem PySem.Spec PyProof.Rows L2 LamX
abbrev sObj (vs : List Value) : Obj := { cls := .type "list", data := .seq vs.toArray }
abbrev tObj : Obj := { cls := .none, data := .fields #[] }
/-- what is tracked where the law begins: the tables, all empty, and the script if it is none of the text's own -/
structure Tr (K : PySem.W.Frag) (ts : List Addr) (a : Addr) (vs : List Value) (h : Heap) (H : Hp) : Prop where
  any : ∀ b, H b = none ∨ (b ∈ ts ∧ H b = some (.tbl #[])) ∨ (b = a ∧ K.lookup b = none ∧ ∃ o xs, H b = some (.frz o (.lst xs)))
  tab : ∀ b ∈ ts, h.get? b = some tObj ∧ K.lookup b = none
  lst : h.get? a = some (sObj vs)
section
variable {K : PySem.W.Frag} {ts : List Addr} {a b : Addr} {vs : List Value} {h : Heap} {H : Hp} {o : Obj}
theorem Tr.un (t : Tr K ts a vs h H) (e : h.get? b = some o) (n1 : ∀ us n, o.data ≠ .seq us n) (n2 : o.data ≠ .fields #[]) : H b = none := by
  rcases t.any b with z | ⟨z, _⟩ | ⟨z, _⟩
  · exact z
  · have q := e.symm.trans (t.tab b z).1
    injection q with q
    exact absurd (congrArg Obj.data q) n2
  · subst z
    have q := e.symm.trans t.lst
    injection q with q
    exact absurd (congrArg Obj.data q) (n1 _ _)
theorem Tr.hid (t : Tr K ts a vs h H) (e : h.get? b = some o) (n1 : ∀ us n, o.data ≠ .seq us n) (n2 : o.data ≠ .fields #[]) : (hidT h H).get? b = some o := hidT_get e (t.un e n1 n2)
theorem Tr.ns {m : Str → Option Value} (t : Tr K ts a vs h H) (q : h.Ns b m) : (hidT h H).Ns b m := by
  obtain ⟨o, es, ep, e, d, r⟩ := q
  exact ⟨o, es, ep, t.hid e (by rw [d]; exact fun _ _ z => nomatch z) (by rw [d]; exact fun z => nomatch z), d, r⟩
theorem Tr.kin (t : Tr K ts a vs h H) (X : K.In h) : K.In (hidT h H) := fun b o e => hidT_get (X b o e) (by
  rcases t.any b with z | ⟨z, _⟩ | ⟨_, z, _⟩
  · exact z
  · rw [(t.tab b z).2] at e
    cases e
  · rw [z] at e
    cases e)
theorem Tr.tabB {mg : Str → Option Value} {c P bm : Addr} {ob : Obj} (t : Tr K ts a vs h H) (hP : P ∈ ts) (g : h.Ns mainGlobals mg) (C : PySem.W.CodeHd h c P) (k1 : mg "__builtins__" = some (.ref bm)) (k2 : bm ≠ builtinsNs) (k3 : h.get? bm = some ob) (k4 : ob.cls = .type "module") (k5 : ob.dict = some builtinsNs) (k6 : ob.data = .plain) : TabB (hidT h H) mg c P := by
  obtain ⟨og, eg, pg, g1, g2, _⟩ := g
  have atP := (t.tab P hP).1
  refine ⟨?_, ⟨bm, ob, k1, k2, fun z => ?_, fun z => ?_, t.hid k3 (by rw [k6]; exact fun _ _ z => nomatch z) (by rw [k6]; exact fun z => nomatch z), k4, k5, k6⟩, fun z => ?_⟩
  · obtain ⟨oc, us, fl, tf, fg, tg, nf, tx, tt, q1, q2, q3, q4, q⟩ := C
    exact ⟨oc, us, fl, tf, fg, tg, nf, tx, tt, t.hid q1 (by rw [q3]; exact fun _ _ z => nomatch z) (by
      rw [q3]
      intro z
      injection z with z
      rw [z] at q4
      simp at q4), q2, q3, q4, q⟩
  · rw [z, g1] at k3
    injection k3 with k3
    rw [← k3, g2] at k6
    cases k6
  · rw [z, atP] at k3
    injection k3 with k3
    rw [← k3] at k6
    cases k6
  · rw [z, atP] at g1
    injection g1 with g1
    rw [← g1] at g2
    cases g2
/-- where the law begins -/
def H0 (K : PySem.W.Frag) (ts : List Addr) (a : Addr) (vs : List Value) (ns : List Int) : Hp := fun b => if b ∈ ts then some (.tbl #[]) else if b = a ∧ K.lookup a = none then some (.frz (sObj vs) (.lst (ns.map V.int))) else none
theorem tr_H0 {ns : List Int} (ht : ∀ b ∈ ts, h.get? b = some tObj ∧ K.lookup b = none) (hl : h.get? a = some (sObj vs)) : Tr K ts a vs h (H0 K ts a vs ns) := by
  refine ⟨fun b => ?_, ht, hl⟩
  unfold H0
  split
  · rename_i z
    exact .inr (.inl ⟨z, rfl⟩)
  · split
    · rename_i z
      refine .inr (.inr ⟨z.1, ?_, _, _, rfl⟩)
      rw [z.1]
      exact z.2
    · exact .inl rfl
theorem a_notin (ht : ∀ b ∈ ts, h.get? b = some tObj ∧ K.lookup b = none) (hl : h.get? a = some (sObj vs)) : a ∉ ts := fun z => by
  have q := hl.symm.trans (ht a z).1
  injection q with q
  cases congrArg Obj.data q
theorem sq_H0 {ns : List Int} (X : K.In h) (ht : ∀ b ∈ ts, h.get? b = some tObj ∧ K.lookup b = none) (hl : h.get? a = some (sObj vs)) (hi : IntsAre vs ns) (hz : ns.length ≤ sizeLine) : SqL K (H0 K ts a vs ns) a (ns.map V.int) := by
  cases hk : K.lookup a with
  | none =>
    refine .inl (.inr ⟨sObj vs, ?_⟩)
    unfold H0
    rw [if_neg (a_notin ht hl), if_pos ⟨rfl, hk⟩]
  | some ob =>
    have q := (X a ob hk).symm.trans hl
    injection q with q
    subst q
    have hs : (vs.toArray).size ≤ sizeLine := by
      rw [List.size_toArray, hi.length]
      exact hz
    exact .inr ⟨_, vs.toArray, _, hk, rfl, rfl, rfl, hs, vals_ints hi⟩
theorem hok_H0 {P : Program} {w : World} {ns : List Int} (ht : ∀ b ∈ ts, h.get? b = some tObj ∧ K.lookup b = none) (hl : h.get? a = some (sObj vs)) (hi : IntsAre vs ns) (hz : ns.length ≤ sizeLine) : HOk P w (H0 K ts a vs ns) h := fun b u e => by
  unfold H0 at e
  split at e
  · rename_i z
    injection e with e
    subst e
    exact (ht b z).1
  · split at e
    · rename_i z
      injection e with e
      subst e
      rw [z.1]
      exact ⟨hl, (by rw [List.length_map]; exact hz), vs, _, vals_ints hi, hl⟩
    · cases e
end
section
variable {P : Program} {w : World} {K : PySem.W.Frag} {mg mb : Str → Option Value} {k : Nat} {fa a : Addr} {cs : List (Addr × Addr)} {fd : FuncData} {x : Str} {sp : Sp} {s : Shared} {vs : List Value} {ns : List Int}
/-- the law's call -/
theorem law_run (X : K.In s.heap) (g : s.heap.Ns mainGlobals mg) (b : s.heap.Ns builtinsNs mb) (bb : ∀ x : Str, x ≠ "__name__" → mb x = bootBuiltins x) (nl : s.heap.NoLimit) (gn : s.gens = #[]) (ht : ∀ p ∈ cs, s.heap.get? p.2 = some tObj ∧ K.lookup p.2 = none) (hc : ∀ p ∈ cs, PySem.W.CodeHd s.heap p.1 p.2)
    (bm : ∃ (bm : Addr) (ob : Obj), mg "__builtins__" = some (.ref bm) ∧ bm ≠ builtinsNs ∧ s.heap.get? bm = some ob ∧ ob.cls = .type "module" ∧ ob.dict = some builtinsNs ∧ ob.data = .plain) (hl : s.heap.get? a = some (sObj vs)) (hi : IntsAre vs ns) (hz : ns.length ≤ sizeLine) (hr : Room k callerA)
    (F : ∀ base : Heap, K.In base → base.Ns mainGlobals mg → (∀ p ∈ cs, TabB base mg p.1 p.2) → FnG P w K mg base k fa fd [x] sp) (bd : ∀ (s : Shared) (u : Value), K.In s.heap → BindsTo s fd ⟨[u], []⟩ [(x, u)])
    (hsp : ∀ H : Hp, (∀ p ∈ cs, H p.2 = some (.tbl #[])) → SqL K H a (ns.map V.int) → sp [.ref a] H (fun v _ => v = .bl true) C8.E0) :
    codeAny (model P w) callerA (.call (.ref fa) ⟨[.ref a], []⟩) (fun r s' => r = .ok (.ret (.bool true)) ∧ OldK s.heap s'.heap ∧ s'.os = s.os ∧ AllBare s'.gens) s := by
  have htm : ∀ c ∈ cs.map (·.2), s.heap.get? c = some tObj ∧ K.lookup c = none := fun c m => by
    obtain ⟨p, hp, rfl⟩ := List.mem_map.mp m
    exact ht p hp
  have t : Tr K (cs.map (·.2)) a vs s.heap (H0 K (cs.map (·.2)) a vs ns) := tr_H0 htm hl
  have ok : HOk P w (H0 K (cs.map (·.2)) a vs ns) s.heap := hok_H0 htm hl hi hz
  have atT : ∀ p ∈ cs, H0 K (cs.map (·.2)) a vs ns p.2 = some (.tbl #[]) := fun p hp => if_pos (List.mem_map.mpr ⟨p, hp, rfl⟩)
  have sq : SqL K (H0 K (cs.map (·.2)) a vs ns) a (ns.map V.int) := sq_H0 X htm hl hi hz
  obtain ⟨H, eH⟩ : ∃ H, H0 K (cs.map (·.2)) a vs ns = H := ⟨_, rfl⟩
  rw [eH] at t ok atT sq
  obtain ⟨mc, l1, l2⟩ := nl
  obtain ⟨bm, ob, k1, k2, k3, k4, k5, k6⟩ := bm
  have e0 : Env0 P w K mg (hidT s.heap H) callerA [] s H := ⟨rfl, ⟨t.kin X, t.ns g, ⟨mb, t.ns b, bb⟩, ⟨mc, t.ns l1, l2⟩⟩, fun _ _ => of_hidT, Nat.le_of_eq (hidT_size _ _), trivial, fun _ z => absurd z (List.not_mem_nil), ok, .of_eq gn⟩
  have Fb := F _ (t.kin X) (t.ns g) fun p hp => t.tabB (List.mem_map.mpr ⟨p, hp, rfl⟩) g (hc p hp) k1 k2 k3 k4 k5 k6
  refine codeAny_mono (Fb.run callerA [] s H ⟨[.ref a], []⟩ [.ref a] [.ref a] _ _ hr rfl e0 (bd s (.ref a) X) (.cons rfl .nil) (hsp H atT sq)) fun r s' q => ?_
  cases r with
  | error e => exact (show False from q).elim
  | ok fl =>
    cases fl <;> try exact False.elim q
    obtain ⟨v, H', os, bare, un, ok', rv, hv⟩ := q
    obtain rfl : v = .bl true := hv
    have eu : _ = Value.bool true := rv
    rw [eu]
    have grown : ∀ c ∈ cs.map (·.2), ∃ more : Array Value, s'.heap.get? c = some { cls := .none, data := .fields more } := fun c m => by
      obtain ⟨p, hp, rfl⟩ := List.mem_map.mp m
      obtain ⟨more, z⟩ := un.tbls _ _ (atT p hp)
      exact ⟨_, ok' _ _ z⟩
    have other : ∀ c o, c ∉ cs.map (·.2) → s.heap.get? c = some o → s'.heap.get? c = some o := fun c o n e => by
      rcases t.any c with z | ⟨z, _⟩ | ⟨_, _, ob, xs, z⟩
      · exact un.keep c o e z List.not_mem_nil List.not_mem_nil
      · exact absurd z n
      · have h1 := (ok c _ z).1
        have h2 := (ok' c _ (un.frzs c ob _ z)).1
        rw [h2, ← h1]
        exact e
    refine ⟨rfl, ⟨fun c o e => ?_, fun c o e => ?_⟩, os, bare⟩
    · by_cases m : c ∈ cs.map (·.2)
      · obtain ⟨more, z⟩ := grown c m
        have e1 := e.symm.trans (htm c m).1
        injection e1 with e1
        subst e1
        obtain ⟨p, hp, rfl⟩ := List.mem_map.mp m
        exact .inr (.inl ⟨((hc p hp).tab (ht p hp).1).isCodeTable, rfl, #[], more, rfl, by rw [Array.empty_append]; exact z⟩)
      · exact .inl (other c o m e)
    · by_cases m : c ∈ cs.map (·.2)
      · exact ⟨_, (grown c m).choose_spec⟩
      · exact ⟨o, other c o m e⟩
end
/-- the tables that the top has left are empty -/
theorem tab_left {q : Program} {K : PySem.W.Frag} {h : Heap} {mg : Str → Option Value} {x : Str} {f c P : Addr} {fd : FuncData} {oc : Value} {od : Option Addr} {osl : Array (Option Value)} (X : K.In h)
    (tab : ∀ d ∈ recsOf q, ∃ a o fd c P, mg d.name = some (.ref a) ∧ h.get? a = some o ∧ o.data = .func fd ∧ fd.code = .ref c ∧ h.IsCode c P #[] ∧ h.TableAt c P #[]) (hx : ((recsOf q).any fun e => e.name == x) = true) (m : mg x = some (.ref f)) (l : K.lookup f = some ⟨oc, od, .func fd, osl⟩) (e : fd.code = .ref c)
    (hh : PySem.W.codeHdIn K c P = true) : h.get? P = some tObj ∧ PySem.W.CodeHd h c P := by
  have C := PySem.W.codeHd_of_K X hh
  refine ⟨?_, C⟩
  obtain ⟨d, hd, en⟩ := List.any_eq_true.mp hx
  obtain ⟨f2, o2, fd2, c2, P2, m2, l2, d2, e2, _, ⟨o3, us, k1, _, k3, k4⟩, k5⟩ := tab d hd
  rw [beq_iff_eq.mp en, m] at m2
  injection m2 with m2
  injection m2 with m2
  subst m2
  have q1 := (X _ _ l).symm.trans l2
  injection q1 with q1
  subst q1
  injection d2 with d2
  subst d2
  have q2 := e.symm.trans e2
  injection q2 with q2
  subst q2
  obtain ⟨o4, vs, fl, tf, fg, tg, nf, tx, tt, r1, _, r3, r4, _⟩ := C
  have q3 := r1.symm.trans k1
  injection q3 with q3
  subst q3
  rw [r3] at k3
  injection k3 with k3
  subst k3
  rw [r4] at k4
  injection k4 with k4
  injection k4 with k4
  subst k4
  exact k5
/-- the end -/
theorem walk_G {l : PySem.W.OpenLaw} {n k : Nat} {q : Program} {loose : List Str} {XP : (Str → Option Value) → Heap → Prop} {YP : World → Heap → Prop} {d : DefRec} {K : Params → PySem.W.Frag} {x : Str} (hn : l.most = some n) (hz : n ≤ sizeLine) (hdf : d.params.defaults = []) (hr : Room k callerA) (hY : ∀ (w : World) (h : Heap), YP w h → (K w.params).In h)
    (F : ∀ (w : World) (mg : Str → Option Value) (fa : Addr) (h : Heap), (K w.params).In h → h.Ns mainGlobals mg → mg d.name = some (.ref fa) →
      (∀ d ∈ recsOf q, ∃ a o fd c P, mg d.name = some (.ref a) ∧ h.get? a = some o ∧ o.data = .func fd ∧ fd.code = .ref c ∧ h.IsCode c P #[] ∧ h.TableAt c P #[]) →
      ∃ (fd : FuncData) (cs : List (Addr × Addr)) (sp : Sp), (∀ p ∈ cs, (h.get? p.2 = some tObj ∧ PySem.W.CodeHd h p.1 p.2) ∧ (K w.params).lookup p.2 = none) ∧ (∀ (s : Shared) (u : Value), (K w.params).In s.heap → BindsTo s fd ⟨[u], []⟩ [(x, u)]) ∧
        (∀ (H : Hp) (a : Addr) (ns : List Int), ns.length ≤ n → (∀ p ∈ cs, H p.2 = some (.tbl #[])) → SqL (K w.params) H a (ns.map V.int) → sp [.ref a] H (fun v _ => v = .bl true) C8.E0) ∧
        ∀ base : Heap, (K w.params).In base → base.Ns mainGlobals mg → (∀ p ∈ cs, TabB base mg p.1 p.2) → FnG l.prog w (K w.params) mg base k fa fd [x] sp) :
    PySem.W.WalkO q loose XP YP l.row.toRowW d [] (fun f vs => PySem.call f vs) := by
  refine Att.attach_callB hn hdf fun w s₀ s mg mb fa o pm cd doc a vs ns G Y ho hd hcd hmg hl hi hlen hbits gn => ?_
  obtain ⟨fd, cs, sp, ht, bd, hsp, Fb⟩ := F w mg fa _ (hY w _ Y) G.T.g hmg G.T.tab
  exact law_run (hY w _ Y) G.T.g G.T.b G.T.builtins G.T.nolimit gn (fun p hp => ⟨(ht p hp).1.1, (ht p hp).2⟩) (fun p hp => (ht p hp).1.2) G.T.bmain hl hi (Nat.le_trans hlen hz) hr Fb bd fun H h1 h2 => hsp H a ns hlen h1 h2
end SB
end

section
set_option Elab.async false
set_option linter.all false
set_option maxRecDepth 100000
set_option maxHeartbeats 0
set_option autoImplicit false
/-! SbFacts: what the top has left. -/
namespace SB
open PySem PySem.Spec PyProof.Rows L2 LamX
noncomputable abbrev HK : Params → PySem.W.Frag := PySem.Challenge.sb_head.heap_39
theorem warm : PySem.Challenge.rw_shortbars_k01_whole_orders_and_lots = PySem.Challenge.rw_shortbars_k01_whole_orders_and_lots ∧ PySem.Challenge.sb_head.heap_39 = PySem.Challenge.sb_head.heap_39 := by
  k_fill
  exact ⟨rfl, rfl⟩
section
variable {K : PySem.W.Frag} {h : Heap} {mg : Str → Option Value} {x : Str} {st : Stmt} {ps : List Str} {f c : Addr} {oc : Value} {od an : Option Addr} {osl : Array (Option Value)} {kV doc pm cdv ct : Value}
/-- a def that the top has left -/
theorem df_mk (X : K.In h) (G : h.Ns mainGlobals mg) (a : PySem.W.nsIn K mainGlobals x = some (some (.ref f)))
    (l : K.lookup f = some ⟨oc, od, .func (PySem.W.fnOf x x (C8.fnArgs st) (C8.fnBody st) (C8.fnScope st) .none kV doc pm an cdv ct), osl⟩) (c : PySem.W.codeIn K cdv x = true) (k : PySem.W.keepIn K (.ref f) = true)
    (b : ∀ (kV doc pm : Value) (an : Option Addr) (cdv ct : Value) (us : List Value), us.length = ps.length → bindArgs (PySem.W.fnOf x x (C8.fnArgs st) (C8.fnBody st) (C8.fnScope st) .none kV doc pm an cdv ct) ⟨us, []⟩ = pure (ps.zip us)) : DF K mg x st ps := by
  have F : C8.Fun K x x st f (PySem.W.fnOf x x (C8.fnArgs st) (C8.fnBody st) (C8.fnScope st) .none kV doc pm an cdv ct) := ⟨oc, od, .none, kV, doc, pm, an, cdv, ct, osl, rfl, l, c⟩
  exact ⟨f, _, ⟨F, PySem.W.mg_of X G a, k⟩, F.binds rfl b⟩
/-- .. with its code object -/
theorem dfc_mk {ca : Addr} (X : K.In h) (G : h.Ns mainGlobals mg) (a : PySem.W.nsIn K mainGlobals x = some (some (.ref f)))
    (l : K.lookup f = some ⟨oc, od, .func (PySem.W.fnOf x x (C8.fnArgs st) (C8.fnBody st) (C8.fnScope st) .none kV doc pm an (.ref ca) ct), osl⟩) (c : PySem.W.codeIn K (.ref ca) x = true) (k : PySem.W.keepIn K (.ref f) = true)
    (b : ∀ (kV doc pm : Value) (an : Option Addr) (cdv ct : Value) (us : List Value), us.length = ps.length → bindArgs (PySem.W.fnOf x x (C8.fnArgs st) (C8.fnBody st) (C8.fnScope st) .none kV doc pm an cdv ct) ⟨us, []⟩ = pure (ps.zip us)) : DFc K mg x st ps ca := by
  have F : C8.Fun K x x st f (PySem.W.fnOf x x (C8.fnArgs st) (C8.fnBody st) (C8.fnScope st) .none kV doc pm an (.ref ca) ct) := ⟨oc, od, .none, kV, doc, pm, an, .ref ca, ct, osl, rfl, l, c⟩
  exact ⟨f, _, ⟨F, PySem.W.mg_of X G a, k⟩, F.binds rfl b, rfl⟩
theorem gint_mk {i : Int} {t : Tok} (X : K.In h) (G : h.Ns mainGlobals mg) (a : PySem.W.nsIn K mainGlobals x = some (some (.int i t))) : GInt mg x i := ⟨t, PySem.W.mg_of X G a⟩
theorem gstr_mk {z : Str} {t : Tok} (X : K.In h) (G : h.Ns mainGlobals mg) (a : PySem.W.nsIn K mainGlobals x = some (some (.str z t))) : GStr mg x z := ⟨t, PySem.W.mg_of X G a⟩
theorem ktup_mk {a : Addr} {xs : List V} {its : Array Value} {n : Nat} (l : K.lookup a = some ⟨.type "tuple", od, .seq its n, osl⟩) (s : its.size ≤ sizeLine) (v : Vals xs its.toList) : KTup K a xs := ⟨_, its, n, l, rfl, rfl, s, v⟩
theorem init_mk {C : Addr} (a : PySem.W.findIn K (.ref C) "__init__" = some (some (.ref f))) : ∃ f, PySem.W.findIn K (.ref C) "__init__" = some (some (.ref f)) := ⟨f, a⟩
theorem words_mk {w : World} {a : Addr} {es : Array DictEntry} {n : Nat} (l : K.lookup a = some ⟨.type "dict", none, .dict es n, #[]⟩) (k : PySem.W.KeysLit w.params es.toList) (s : (a == sysModules) = false) : ∃ es n, KDict K w a es n := ⟨es, n, l, k, s⟩
theorem er_mk {C N : Addr} {q0 nm q : Str} {bs bm : List Value} {sn : List Str} {sub : List Value} {ab : Bool} {col : Option Bool} {dd : Option Addr} {m0 m1 m2 m3 m5 : Option Value} (X : K.In h) (G : h.Ns mainGlobals mg) (gC : PySem.W.nsIn K mainGlobals x = some (some (.ref C)))
    (xL : K.lookup C = some (excClassObj nm q C N bs bm true sn sub ab col dd m0 m1 m2 m3 m5 "ValueError.__new__")) (hv : PySem.HandSPX.refsVE bm = true) (sa : PySem.W.findIn K (.ref C) "__setattr__" = some (some (.builtin "object.__setattr__"))) (ex : PySem.W.subIn K (.ref C) (.type "BaseException") = some true)
    (ty : PySem.W.typeIn K (.ref C) = some (.type "type")) (kC : PySem.W.keepIn K (.ref C) = true) (ga : PySem.W.findIn K (.ref C) "__getattribute__" = some (some (.builtin "BaseException.__getattribute__"))) (gg : PySem.W.findIn K (.ref C) "__getattr__" = some none) (hd : PySem.W.hasDictIn K C = true)
    (iC : PySem.W.findIn K (.ref C) "__init__" = some (some (.ref f))) (tI : PySem.W.typeIn K (.ref f) = some (.type "function")) (no : PySem.W.findIn K (.ref C) "given" = some none) (hq : q0 = x ++ ".__init__")
    (l : K.lookup f = some ⟨oc, od, .func (PySem.W.fnOf "__init__" q0 (C8.fnArgs st) (C8.fnBody st) (C8.fnScope st) .none kV doc pm an cdv ct), osl⟩) (c : PySem.W.codeIn K cdv q0 = true)
    (b : ∀ (kV doc pm : Value) (an : Option Addr) (cdv ct : Value) (us : List Value), us.length = (["self", "given"] : List Str).length → bindArgs (PySem.W.fnOf "__init__" q0 (C8.fnArgs st) (C8.fnBody st) (C8.fnScope st) .none kV doc pm an cdv ct) ⟨us, []⟩ = pure ((["self", "given"] : List Str).zip us)) : Er K mg x C f st := by
  subst hq
  have F : C8.Fun K "__init__" (x ++ ".__init__") st f (PySem.W.fnOf "__init__" (x ++ ".__init__") (C8.fnArgs st) (C8.fnBody st) (C8.fnScope st) .none kV doc pm an cdv ct) := ⟨oc, od, .none, kV, doc, pm, an, cdv, ct, osl, rfl, l, c⟩
  exact ⟨PySem.W.mg_of X G gC, ⟨⟨_, _, _, _, _, _, _, _, _, _, _, _, _, _, _, xL, hv⟩, sa, ex, ty, kC⟩, iC, tI, ⟨ga, gg, ex, hd⟩, no, ⟨_, F, F.binds rfl b⟩, kC⟩
end
section
variable {w : World} {mg : Str → Option Value} {h : Heap} (X : (PySem.Challenge.sb_head.heap_39 w.params).In h) (G : h.Ns mainGlobals mg)
include X G
theorem h_is_integer : DF (PySem.Challenge.sb_head.heap_39 w.params) mg "is_integer" (topS 15) ["thing"] := by
  refine' df_mk X G ?a ?l ?c ?k ?b
  (case a => k_is); (case l => k_is); (case c => k_is); (case k => k_is)
  (case b => intro _ _ _ _ _ _ us hl; match us, hl with | [_], _ => rfl)
theorem h_is_value : DF (PySem.Challenge.sb_head.heap_39 w.params) mg "is_value" (topS 16) ["thing"] := by
  refine' df_mk X G ?a ?l ?c ?k ?b
  (case a => k_is); (case l => k_is); (case c => k_is); (case k => k_is)
  (case b => intro _ _ _ _ _ _ us hl; match us, hl with | [_], _ => rfl)
theorem h_is_sort : DF (PySem.Challenge.sb_head.heap_39 w.params) mg "is_sort" (topS 17) ["thing"] := by
  refine' df_mk X G ?a ?l ?c ?k ?b
  (case a => k_is); (case l => k_is); (case c => k_is); (case k => k_is)
  (case b => intro _ _ _ _ _ _ us hl; match us, hl with | [_], _ => rfl)
theorem h_words_of : DF (PySem.Challenge.sb_head.heap_39 w.params) mg "words_of" (topS 18) ["sort"] := by
  refine' df_mk X G ?a ?l ?c ?k ?b
  (case a => k_is); (case l => k_is); (case c => k_is); (case k => k_is)
  (case b => intro _ _ _ _ _ _ us hl; match us, hl with | [_], _ => rfl)
theorem h_is_word_of : DF (PySem.Challenge.sb_head.heap_39 w.params) mg "is_word_of" (topS 19) ["sort", "word"] := by
  refine' df_mk X G ?a ?l ?c ?k ?b
  (case a => k_is); (case l => k_is); (case c => k_is); (case k => k_is)
  (case b => intro _ _ _ _ _ _ us hl; match us, hl with | [_, _], _ => rfl)
theorem h_can_give : DF (PySem.Challenge.sb_head.heap_39 w.params) mg "can_give" (topS 20) ["word", "given"] := by
  refine' df_mk X G ?a ?l ?c ?k ?b
  (case a => k_is); (case l => k_is); (case c => k_is); (case k => k_is)
  (case b => intro _ _ _ _ _ _ us hl; match us, hl with | [_, _], _ => rfl)
theorem h_can_tell : DF (PySem.Challenge.sb_head.heap_39 w.params) mg "can_tell" (topS 21) ["word", "told"] := by
  refine' df_mk X G ?a ?l ?c ?k ?b
  (case a => k_is); (case l => k_is); (case c => k_is); (case k => k_is)
  (case b => intro _ _ _ _ _ _ us hl; match us, hl with | [_, _], _ => rfl)
theorem h_is_doing : DF (PySem.Challenge.sb_head.heap_39 w.params) mg "is_doing" (topS 22) ["sorts", "doing"] := by
  refine' df_mk X G ?a ?l ?c ?k ?b
  (case a => k_is); (case l => k_is); (case c => k_is); (case k => k_is)
  (case b => intro _ _ _ _ _ _ us hl; match us, hl with | [_, _], _ => rfl)
theorem h_is_call : DF (PySem.Challenge.sb_head.heap_39 w.params) mg "is_call" (topS 23) ["sorts", "thing"] := by
  refine' df_mk X G ?a ?l ?c ?k ?b
  (case a => k_is); (case l => k_is); (case c => k_is); (case k => k_is)
  (case b => intro _ _ _ _ _ _ us hl; match us, hl with | [_, _], _ => rfl)
theorem h_are_sorts : DF (PySem.Challenge.sb_head.heap_39 w.params) mg "are_sorts" (topS 24) ["thing"] := by
  refine' df_mk X G ?a ?l ?c ?k ?b
  (case a => k_is); (case l => k_is); (case c => k_is); (case k => k_is)
  (case b => intro _ _ _ _ _ _ us hl; match us, hl with | [_], _ => rfl)
theorem h_are_unlike : DF (PySem.Challenge.sb_head.heap_39 w.params) mg "are_unlike" (topS 25) ["some"] := by
  refine' df_mk X G ?a ?l ?c ?k ?b
  (case a => k_is); (case l => k_is); (case c => k_is); (case k => k_is)
  (case b => intro _ _ _ _ _ _ us hl; match us, hl with | [_], _ => rfl)
theorem h_givers_of : DF (PySem.Challenge.sb_head.heap_39 w.params) mg "givers_of" (topS 26) ["doings"] := by
  refine' df_mk X G ?a ?l ?c ?k ?b
  (case a => k_is); (case l => k_is); (case c => k_is); (case k => k_is)
  (case b => intro _ _ _ _ _ _ us hl; match us, hl with | [_], _ => rfl)
theorem h_are_calls : DF (PySem.Challenge.sb_head.heap_39 w.params) mg "are_calls" (topS 27) ["sorts", "thing"] := by
  refine' df_mk X G ?a ?l ?c ?k ?b
  (case a => k_is); (case l => k_is); (case c => k_is); (case k => k_is)
  (case b => intro _ _ _ _ _ _ us hl; match us, hl with | [_, _], _ => rfl)
theorem h_are_in_time : DF (PySem.Challenge.sb_head.heap_39 w.params) mg "are_in_time" (topS 28) ["calls"] := by
  refine' df_mk X G ?a ?l ?c ?k ?b
  (case a => k_is); (case l => k_is); (case c => k_is); (case k => k_is)
  (case b => intro _ _ _ _ _ _ us hl; match us, hl with | [_], _ => rfl)
theorem h_fault_of : DF (PySem.Challenge.sb_head.heap_39 w.params) mg "fault_of" (topS 29) ["thing"] := by
  refine' df_mk X G ?a ?l ?c ?k ?b
  (case a => k_is); (case l => k_is); (case c => k_is); (case k => k_is)
  (case b => intro _ _ _ _ _ _ us hl; match us, hl with | [_], _ => rfl)
theorem h_need_history : DF (PySem.Challenge.sb_head.heap_39 w.params) mg "need_history" (topS 30) ["thing"] := by
  refine' df_mk X G ?a ?l ?c ?k ?b
  (case a => k_is); (case l => k_is); (case c => k_is); (case k => k_is)
  (case b => intro _ _ _ _ _ _ us hl; match us, hl with | [_], _ => rfl)
theorem h_need_thing : DF (PySem.Challenge.sb_head.heap_39 w.params) mg "need_thing" (topS 31) ["history", "thing"] := by
  refine' df_mk X G ?a ?l ?c ?k ?b
  (case a => k_is); (case l => k_is); (case c => k_is); (case k => k_is)
  (case b => intro _ _ _ _ _ _ us hl; match us, hl with | [_, _], _ => rfl)
theorem h_is_before : DF (PySem.Challenge.sb_head.heap_39 w.params) mg "is_before" (topS 32) ["calls", "number", "far"] := by
  refine' df_mk X G ?a ?l ?c ?k ?b
  (case a => k_is); (case l => k_is); (case c => k_is); (case k => k_is)
  (case b => intro _ _ _ _ _ _ us hl; match us, hl with | [_, _, _], _ => rfl)
theorem h_all_ahead : DF (PySem.Challenge.sb_head.heap_39 w.params) mg "all_ahead" (topS 33) ["calls"] := by
  refine' df_mk X G ?a ?l ?c ?k ?b
  (case a => k_is); (case l => k_is); (case c => k_is); (case k => k_is)
  (case b => intro _ _ _ _ _ _ us hl; match us, hl with | [_], _ => rfl)
theorem h_are_numbers : DF (PySem.Challenge.sb_head.heap_39 w.params) mg "are_numbers" (topS 34) ["thing", "many"] := by
  refine' df_mk X G ?a ?l ?c ?k ?b
  (case a => k_is); (case l => k_is); (case c => k_is); (case k => k_is)
  (case b => intro _ _ _ _ _ _ us hl; match us, hl with | [_, _], _ => rfl)
theorem h_is_order_in : DF (PySem.Challenge.sb_head.heap_39 w.params) mg "is_order_in" (topS 35) ["calls", "value"] := by
  refine' df_mk X G ?a ?l ?c ?k ?b
  (case a => k_is); (case l => k_is); (case c => k_is); (case k => k_is)
  (case b => intro _ _ _ _ _ _ us hl; match us, hl with | [_, _], _ => rfl)
theorem h_is_order : DF (PySem.Challenge.sb_head.heap_39 w.params) mg "is_order" (topS 36) ["history", "value"] := by
  refine' df_mk X G ?a ?l ?c ?k ?b
  (case a => k_is); (case l => k_is); (case c => k_is); (case k => k_is)
  (case b => intro _ _ _ _ _ _ us hl; match us, hl with | [_, _], _ => rfl)
theorem h_need_lot : DF (PySem.Challenge.sb_head.heap_39 w.params) mg "need_lot" (topS 37) ["history", "lot"] := by
  refine' df_mk X G ?a ?l ?c ?k ?b
  (case a => k_is); (case l => k_is); (case c => k_is); (case k => k_is)
  (case b => intro _ _ _ _ _ _ us hl; match us, hl with | [_, _], _ => rfl)
theorem h_with_numbers : DF (PySem.Challenge.sb_head.heap_39 w.params) mg "with_numbers" (topS 38) ["history", "lot"] := by
  refine' df_mk X G ?a ?l ?c ?k ?b
  (case a => k_is); (case l => k_is); (case c => k_is); (case k => k_is)
  (case b => intro _ _ _ _ _ _ us hl; match us, hl with | [_, _], _ => rfl)
theorem h_calls_of_lot : DF (PySem.Challenge.sb_head.heap_39 w.params) mg "calls_of_lot" (topS 39) ["history", "lot"] := by
  refine' df_mk X G ?a ?l ?c ?k ?b
  (case a => k_is); (case l => k_is); (case c => k_is); (case k => k_is)
  (case b => intro _ _ _ _ _ _ us hl; match us, hl with | [_, _], _ => rfl)
theorem h_part_in : DF (PySem.Challenge.sb_head.heap_39 w.params) mg "part_in" (topS 40) ["history", "thing"] := by
  refine' df_mk X G ?a ?l ?c ?k ?b
  (case a => k_is); (case l => k_is); (case c => k_is); (case k => k_is)
  (case b => intro _ _ _ _ _ _ us hl; match us, hl with | [_, _], _ => rfl)
theorem h_history_of_thing : DF (PySem.Challenge.sb_head.heap_39 w.params) mg "history_of_thing" (topS 41) ["history", "thing"] := by
  refine' df_mk X G ?a ?l ?c ?k ?b
  (case a => k_is); (case l => k_is); (case c => k_is); (case k => k_is)
  (case b => intro _ _ _ _ _ _ us hl; match us, hl with | [_, _], _ => rfl)
theorem h__law_mixed : DF (PySem.Challenge.sb_head.heap_39 w.params) mg "_law_mixed" (topS 43) ["_law_cell", "_law_k"] := by
  refine' df_mk X G ?a ?l ?c ?k ?b
  (case a => k_is); (case l => k_is); (case c => k_is); (case k => k_is)
  (case b => intro _ _ _ _ _ _ us hl; match us, hl with | [_, _], _ => rfl)
theorem h__law_begin : DF (PySem.Challenge.sb_head.heap_39 w.params) mg "_law_begin" (topS 44) ["_law_script"] := by
  refine' df_mk X G ?a ?l ?c ?k ?b
  (case a => k_is); (case l => k_is); (case c => k_is); (case k => k_is)
  (case b => intro _ _ _ _ _ _ us hl; match us, hl with | [_], _ => rfl)
theorem h__law_draw : DF (PySem.Challenge.sb_head.heap_39 w.params) mg "_law_draw" (topS 45) ["_law_state", "_law_many"] := by
  refine' df_mk X G ?a ?l ?c ?k ?b
  (case a => k_is); (case l => k_is); (case c => k_is); (case k => k_is)
  (case b => intro _ _ _ _ _ _ us hl; match us, hl with | [_, _], _ => rfl)
theorem h__law_of : DF (PySem.Challenge.sb_head.heap_39 w.params) mg "_law_of" (topS 46) ["_law_state", "_law_some"] := by
  refine' df_mk X G ?a ?l ?c ?k ?b
  (case a => k_is); (case l => k_is); (case c => k_is); (case k => k_is)
  (case b => intro _ _ _ _ _ _ us hl; match us, hl with | [_, _], _ => rfl)
theorem h__law_store : DF (PySem.Challenge.sb_head.heap_39 w.params) mg "_law_store" (topS 47) ["_law_sort"] := by
  refine' df_mk X G ?a ?l ?c ?k ?b
  (case a => k_is); (case l => k_is); (case c => k_is); (case k => k_is)
  (case b => intro _ _ _ _ _ _ us hl; match us, hl with | [_], _ => rfl)
theorem h__law_taken : DF (PySem.Challenge.sb_head.heap_39 w.params) mg "_law_taken" (topS 48) ["_law_sort", "_law_store_here"] := by
  refine' df_mk X G ?a ?l ?c ?k ?b
  (case a => k_is); (case l => k_is); (case c => k_is); (case k => k_is)
  (case b => intro _ _ _ _ _ _ us hl; match us, hl with | [_, _], _ => rfl)
theorem h__law_do : DF (PySem.Challenge.sb_head.heap_39 w.params) mg "_law_do" (topS 49) ["_law_sort", "_law_store_here", "_law_word_here", "_law_given"] := by
  refine' df_mk X G ?a ?l ?c ?k ?b
  (case a => k_is); (case l => k_is); (case c => k_is); (case k => k_is)
  (case b => intro _ _ _ _ _ _ us hl; match us, hl with | [_, _, _, _], _ => rfl)
theorem h__law_value : DF (PySem.Challenge.sb_head.heap_39 w.params) mg "_law_value" (topS 50) ["_law_state", "_law_used"] := by
  refine' df_mk X G ?a ?l ?c ?k ?b
  (case a => k_is); (case l => k_is); (case c => k_is); (case k => k_is)
  (case b => intro _ _ _ _ _ _ us hl; match us, hl with | [_, _], _ => rfl)
theorem h__law_word : DF (PySem.Challenge.sb_head.heap_39 w.params) mg "_law_word" (topS 51) ["_law_state", "_law_sort", "_law_store_here", "_law_used"] := by
  refine' df_mk X G ?a ?l ?c ?k ?b
  (case a => k_is); (case l => k_is); (case c => k_is); (case k => k_is)
  (case b => intro _ _ _ _ _ _ us hl; match us, hl with | [_, _, _, _], _ => rfl)
theorem h__law_row : DF (PySem.Challenge.sb_head.heap_39 w.params) mg "_law_row" (topS 52) ["_law_state", "_law_sorts_here", "_law_many"] := by
  refine' df_mk X G ?a ?l ?c ?k ?b
  (case a => k_is); (case l => k_is); (case c => k_is); (case k => k_is)
  (case b => intro _ _ _ _ _ _ us hl; match us, hl with | [_, _, _], _ => rfl)
theorem h__law_history : DF (PySem.Challenge.sb_head.heap_39 w.params) mg "_law_history" (topS 53) ["_law_state", "_law_sorts_here", "_law_many"] := by
  refine' df_mk X G ?a ?l ?c ?k ?b
  (case a => k_is); (case l => k_is); (case c => k_is); (case k => k_is)
  (case b => intro _ _ _ _ _ _ us hl; match us, hl with | [_, _, _], _ => rfl)
theorem h__law_other : DF (PySem.Challenge.sb_head.heap_39 w.params) mg "_law_other" (topS 54) ["_law_state", "_law_call"] := by
  refine' df_mk X G ?a ?l ?c ?k ?b
  (case a => k_is); (case l => k_is); (case c => k_is); (case k => k_is)
  (case b => intro _ _ _ _ _ _ us hl; match us, hl with | [_, _], _ => rfl)
theorem h__law_bent : DF (PySem.Challenge.sb_head.heap_39 w.params) mg "_law_bent" (topS 55) ["_law_state", "_law_history_here"] := by
  refine' df_mk X G ?a ?l ?c ?k ?b
  (case a => k_is); (case l => k_is); (case c => k_is); (case k => k_is)
  (case b => intro _ _ _ _ _ _ us hl; match us, hl with | [_, _], _ => rfl)
theorem h__law_is_whole : DF (PySem.Challenge.sb_head.heap_39 w.params) mg "_law_is_whole" (topS 56) ["_law_thing", "_law_least", "_law_most"] := by
  refine' df_mk X G ?a ?l ?c ?k ?b
  (case a => k_is); (case l => k_is); (case c => k_is); (case k => k_is)
  (case b => intro _ _ _ _ _ _ us hl; match us, hl with | [_, _, _], _ => rfl)
theorem h__law_sorts : DF (PySem.Challenge.sb_head.heap_39 w.params) mg "_law_sorts" (topS 57) ["_law_state", "_law_many"] := by
  refine' df_mk X G ?a ?l ?c ?k ?b
  (case a => k_is); (case l => k_is); (case c => k_is); (case k => k_is)
  (case b => intro _ _ _ _ _ _ us hl; match us, hl with | [_, _], _ => rfl)
theorem h__law_drawn : DF (PySem.Challenge.sb_head.heap_39 w.params) mg "_law_drawn" (topS 58) ["_law_state", "_law_many", "_law_most"] := by
  refine' df_mk X G ?a ?l ?c ?k ?b
  (case a => k_is); (case l => k_is); (case c => k_is); (case k => k_is)
  (case b => intro _ _ _ _ _ _ us hl; match us, hl with | [_, _, _], _ => rfl)
theorem h__law_any_order : DF (PySem.Challenge.sb_head.heap_39 w.params) mg "_law_any_order" (topS 59) ["_law_state", "_law_calls_so"] := by
  refine' df_mk X G ?a ?l ?c ?k ?b
  (case a => k_is); (case l => k_is); (case c => k_is); (case k => k_is)
  (case b => intro _ _ _ _ _ _ us hl; match us, hl with | [_, _], _ => rfl)
theorem h__law_is_order : DF (PySem.Challenge.sb_head.heap_39 w.params) mg "_law_is_order" (topS 60) ["_law_calls_so", "_law_thing"] := by
  refine' df_mk X G ?a ?l ?c ?k ?b
  (case a => k_is); (case l => k_is); (case c => k_is); (case k => k_is)
  (case b => intro _ _ _ _ _ _ us hl; match us, hl with | [_, _], _ => rfl)
theorem h__law_twisted : DF (PySem.Challenge.sb_head.heap_39 w.params) mg "_law_twisted" (topS 61) ["_law_state", "_law_thing"] := by
  refine' df_mk X G ?a ?l ?c ?k ?b
  (case a => k_is); (case l => k_is); (case c => k_is); (case k => k_is)
  (case b => intro _ _ _ _ _ _ us hl; match us, hl with | [_, _], _ => rfl)
theorem h__law_heard : DF (PySem.Challenge.sb_head.heap_39 w.params) mg "_law_heard" (topS 62) ["_law_call"] := by
  refine' df_mk X G ?a ?l ?c ?k ?b
  (case a => k_is); (case l => k_is); (case c => k_is); (case k => k_is)
  (case b => intro _ _ _ _ _ _ us hl; match us, hl with | [_], _ => rfl)
theorem h__law_orders_good : DF (PySem.Challenge.sb_head.heap_39 w.params) mg "_law_orders_good" (topS 63) ["_law_state", "_law_history_here"] := by
  refine' df_mk X G ?a ?l ?c ?k ?b
  (case a => k_is); (case l => k_is); (case c => k_is); (case k => k_is)
  (case b => intro _ _ _ _ _ _ us hl; match us, hl with | [_, _], _ => rfl)
theorem h__law_numbers_good : DF (PySem.Challenge.sb_head.heap_39 w.params) mg "_law_numbers_good" (topS 64) ["_law_state", "_law_history_here"] := by
  refine' df_mk X G ?a ?l ?c ?k ?b
  (case a => k_is); (case l => k_is); (case c => k_is); (case k => k_is)
  (case b => intro _ _ _ _ _ _ us hl; match us, hl with | [_, _], _ => rfl)
theorem h__law_is_lot : DF (PySem.Challenge.sb_head.heap_39 w.params) mg "_law_is_lot" (topS 65) ["_law_many", "_law_thing"] := by
  refine' df_mk X G ?a ?l ?c ?k ?b
  (case a => k_is); (case l => k_is); (case c => k_is); (case k => k_is)
  (case b => intro _ _ _ _ _ _ us hl; match us, hl with | [_, _], _ => rfl)
theorem h__law_lots_good : DF (PySem.Challenge.sb_head.heap_39 w.params) mg "_law_lots_good" (topS 66) ["_law_state", "_law_history_here"] := by
  refine' df_mk X G ?a ?l ?c ?k ?b
  (case a => k_is); (case l => k_is); (case c => k_is); (case k => k_is)
  (case b => intro _ _ _ _ _ _ us hl; match us, hl with | [_, _], _ => rfl)
theorem g__law_lots_good : DFc (PySem.Challenge.sb_head.heap_39 w.params) mg "_law_lots_good" (topS 66) ["_law_state", "_law_history_here"] 402 := by
  refine' dfc_mk X G ?a ?l ?c ?k ?b
  (case a => k_is); (case l => k_is); (case c => k_is); (case k => k_is)
  (case b => intro _ _ _ _ _ _ us hl; match us, hl with | [_, _], _ => rfl)
theorem h__law_things_good : DF (PySem.Challenge.sb_head.heap_39 w.params) mg "_law_things_good" (topS 67) ["_law_history_here"] := by
  refine' df_mk X G ?a ?l ?c ?k ?b
  (case a => k_is); (case l => k_is); (case c => k_is); (case k => k_is)
  (case b => intro _ _ _ _ _ _ us hl; match us, hl with | [_], _ => rfl)
theorem g__law_things_good : DFc (PySem.Challenge.sb_head.heap_39 w.params) mg "_law_things_good" (topS 67) ["_law_history_here"] 407 := by
  refine' dfc_mk X G ?a ?l ?c ?k ?b
  (case a => k_is); (case l => k_is); (case c => k_is); (case k => k_is)
  (case b => intro _ _ _ _ _ _ us hl; match us, hl with | [_], _ => rfl)
theorem h_law : DF (PySem.Challenge.sb_head.heap_39 w.params) mg "law" (topS 68) ["_law_script"] := by
  refine' df_mk X G ?a ?l ?c ?k ?b
  (case a => k_is); (case l => k_is); (case c => k_is); (case k => k_is)
  (case b => intro _ _ _ _ _ _ us hl; match us, hl with | [_], _ => rfl)
theorem g_law : DFc (PySem.Challenge.sb_head.heap_39 w.params) mg "law" (topS 68) ["_law_script"] 412 := by
  refine' dfc_mk X G ?a ?l ?c ?k ?b
  (case a => k_is); (case l => k_is); (case c => k_is); (case k => k_is)
  (case b => intro _ _ _ _ _ _ us hl; match us, hl with | [_], _ => rfl)
theorem z_len : mg "len" = none := by
  refine' PySem.W.mg_none_of X G ?a
  (case a => k_is)
theorem z_range : mg "range" = none := by
  refine' PySem.W.mg_none_of X G ?a
  (case a => k_is)
theorem z_isinstance : mg "isinstance" = none := by
  refine' PySem.W.mg_none_of X G ?a
  (case a => k_is)
theorem z_int : mg "int" = none := by
  refine' PySem.W.mg_none_of X G ?a
  (case a => k_is)
theorem z_bool : mg "bool" = none := by
  refine' PySem.W.mg_none_of X G ?a
  (case a => k_is)
theorem z_list : mg "list" = none := by
  refine' PySem.W.mg_none_of X G ?a
  (case a => k_is)
theorem z_tuple : mg "tuple" = none := by
  refine' PySem.W.mg_none_of X G ?a
  (case a => k_is)
theorem z_sorted : mg "sorted" = none := by
  refine' PySem.W.mg_none_of X G ?a
  (case a => k_is)
theorem z_min : mg "min" = none := by
  refine' PySem.W.mg_none_of X G ?a
  (case a => k_is)
theorem z_max : mg "max" = none := by
  refine' PySem.W.mg_none_of X G ?a
  (case a => k_is)
theorem z_zip : mg "zip" = none := by
  refine' PySem.W.mg_none_of X G ?a
  (case a => k_is)
theorem z_enumerate : mg "enumerate" = none := by
  refine' PySem.W.mg_none_of X G ?a
  (case a => k_is)
theorem z_all : mg "all" = none := by
  refine' PySem.W.mg_none_of X G ?a
  (case a => k_is)
theorem z_any : mg "any" = none := by
  refine' PySem.W.mg_none_of X G ?a
  (case a => k_is)
theorem z_set : mg "set" = none := by
  refine' PySem.W.mg_none_of X G ?a
  (case a => k_is)
theorem z_repr : mg "repr" = none := by
  refine' PySem.W.mg_none_of X G ?a
  (case a => k_is)
theorem z_str : mg "str" = none := by
  refine' PySem.W.mg_none_of X G ?a
  (case a => k_is)
theorem k_MOST_VALUE : GInt mg "MOST_VALUE" 1000000 := by
  refine' gint_mk X G ?a
  (case a => k_is)
theorem k_MOST_CALLS : GInt mg "MOST_CALLS" 10 := by
  refine' gint_mk X G ?a
  (case a => k_is)
theorem k_MOST_THINGS : GInt mg "MOST_THINGS" 4 := by
  refine' gint_mk X G ?a
  (case a => k_is)
theorem k_MOST_ROOM : GInt mg "MOST_ROOM" 9 := by
  refine' gint_mk X G ?a
  (case a => k_is)
theorem k_ROOM : GStr mg "ROOM" "room" := by
  refine' gstr_mk X G ?a
  (case a => k_is)
theorem m_GIVERS : mg "GIVERS" = some (.ref 94) := by
  refine' PySem.W.mg_of X G ?a
  (case a => k_is)
theorem m_ASKERS : mg "ASKERS" = some (.ref 95) := by
  refine' PySem.W.mg_of X G ?a
  (case a => k_is)
theorem m_NUMBERS : mg "NUMBERS" = some (.ref 96) := by
  refine' PySem.W.mg_of X G ?a
  (case a => k_is)
theorem m_WORDS : mg "WORDS" = some (.ref 85) := by
  refine' PySem.W.mg_of X G ?a
  (case a => k_is)
omit X G
theorem t_giv : KTup (PySem.Challenge.sb_head.heap_39 w.params) 94 ((["write", "put", "enter", "leave", "join", "drop"] : List Str).map V.str) := by
  refine' ktup_mk ?a ?s ?v
  (case a => k_is); (case s => decide); (case v => exact (.cons ⟨_, rfl⟩ (.cons ⟨_, rfl⟩ (.cons ⟨_, rfl⟩ (.cons ⟨_, rfl⟩ (.cons ⟨_, rfl⟩ (.cons ⟨_, rfl⟩ .nil)))))))
theorem t_ask : KTup (PySem.Challenge.sb_head.heap_39 w.params) 95 ((["read", "take"] : List Str).map V.str) := by
  refine' ktup_mk ?a ?s ?v
  (case a => k_is); (case s => decide); (case v => exact (.cons ⟨_, rfl⟩ (.cons ⟨_, rfl⟩ .nil)))
theorem t_num : KTup (PySem.Challenge.sb_head.heap_39 w.params) 96 ((["count", "draw"] : List Str).map V.str) := by
  refine' ktup_mk ?a ?s ?v
  (case a => k_is); (case s => decide); (case v => exact (.cons ⟨_, rfl⟩ (.cons ⟨_, rfl⟩ .nil)))
theorem t_w_cell : KTup (PySem.Challenge.sb_head.heap_39 w.params) 86 ((["write", "read"] : List Str).map V.str) := by
  refine' ktup_mk ?a ?s ?v
  (case a => k_is); (case s => decide); (case v => exact (.cons ⟨_, rfl⟩ (.cons ⟨_, rfl⟩ .nil)))
theorem w_cell : Wd (PySem.Challenge.sb_head.heap_39 w.params) 85 "cell" ["write", "read"] := by
  refine' ⟨86, ?a, t_w_cell⟩
  (case a => k_is)
theorem t_w_queue : KTup (PySem.Challenge.sb_head.heap_39 w.params) 87 ((["put", "take"] : List Str).map V.str) := by
  refine' ktup_mk ?a ?s ?v
  (case a => k_is); (case s => decide); (case v => exact (.cons ⟨_, rfl⟩ (.cons ⟨_, rfl⟩ .nil)))
theorem w_queue : Wd (PySem.Challenge.sb_head.heap_39 w.params) 85 "queue" ["put", "take"] := by
  refine' ⟨87, ?a, t_w_queue⟩
  (case a => k_is)
theorem t_w_stack : KTup (PySem.Challenge.sb_head.heap_39 w.params) 88 ((["put", "take"] : List Str).map V.str) := by
  refine' ktup_mk ?a ?s ?v
  (case a => k_is); (case s => decide); (case v => exact (.cons ⟨_, rfl⟩ (.cons ⟨_, rfl⟩ .nil)))
theorem w_stack : Wd (PySem.Challenge.sb_head.heap_39 w.params) 85 "stack" ["put", "take"] := by
  refine' ⟨88, ?a, t_w_stack⟩
  (case a => k_is)
theorem t_w_heads : KTup (PySem.Challenge.sb_head.heap_39 w.params) 89 ((["put", "take"] : List Str).map V.str) := by
  refine' ktup_mk ?a ?s ?v
  (case a => k_is); (case s => decide); (case v => exact (.cons ⟨_, rfl⟩ (.cons ⟨_, rfl⟩ .nil)))
theorem w_heads : Wd (PySem.Challenge.sb_head.heap_39 w.params) 85 "heads" ["put", "take"] := by
  refine' ⟨89, ?a, t_w_heads⟩
  (case a => k_is)
theorem t_w_counter : KTup (PySem.Challenge.sb_head.heap_39 w.params) 90 ((["add", "count"] : List Str).map V.str) := by
  refine' ktup_mk ?a ?s ?v
  (case a => k_is); (case s => decide); (case v => exact (.cons ⟨_, rfl⟩ (.cons ⟨_, rfl⟩ .nil)))
theorem w_counter : Wd (PySem.Challenge.sb_head.heap_39 w.params) 85 "counter" ["add", "count"] := by
  refine' ⟨90, ?a, t_w_counter⟩
  (case a => k_is)
theorem t_w_tickets : KTup (PySem.Challenge.sb_head.heap_39 w.params) 91 ((["draw"] : List Str).map V.str) := by
  refine' ktup_mk ?a ?s ?v
  (case a => k_is); (case s => decide); (case v => exact (.cons ⟨_, rfl⟩ .nil))
theorem w_tickets : Wd (PySem.Challenge.sb_head.heap_39 w.params) 85 "tickets" ["draw"] := by
  refine' ⟨91, ?a, t_w_tickets⟩
  (case a => k_is)
theorem t_w_set : KTup (PySem.Challenge.sb_head.heap_39 w.params) 92 ((["join", "drop", "has"] : List Str).map V.str) := by
  refine' ktup_mk ?a ?s ?v
  (case a => k_is); (case s => decide); (case v => exact (.cons ⟨_, rfl⟩ (.cons ⟨_, rfl⟩ (.cons ⟨_, rfl⟩ .nil))))
theorem w_set : Wd (PySem.Challenge.sb_head.heap_39 w.params) 85 "set" ["join", "drop", "has"] := by
  refine' ⟨92, ?a, t_w_set⟩
  (case a => k_is)
theorem t_w_room : KTup (PySem.Challenge.sb_head.heap_39 w.params) 93 ((["enter", "leave"] : List Str).map V.str) := by
  refine' ktup_mk ?a ?s ?v
  (case a => k_is); (case s => decide); (case v => exact (.cons ⟨_, rfl⟩ (.cons ⟨_, rfl⟩ .nil)))
theorem w_room : Wd (PySem.Challenge.sb_head.heap_39 w.params) 85 "room" ["enter", "leave"] := by
  refine' ⟨93, ?a, t_w_room⟩
  (case a => k_is)
theorem t_words : ∃ es n, KDict (PySem.Challenge.sb_head.heap_39 w.params) w 85 es n := by
  refine' words_mk ?a ?b ?c
  (case a => k_is); (case c => rfl)
  (case b => exact ⟨⟨_, _, rfl, rfl⟩, ⟨_, _, rfl, rfl⟩, ⟨_, _, rfl, rfl⟩, ⟨_, _, rfl, rfl⟩, ⟨_, _, rfl, rfl⟩, ⟨_, _, rfl, rfl⟩, ⟨_, _, rfl, rfl⟩, ⟨_, _, rfl, rfl⟩, trivial⟩)
theorem e_cH_cH : PySem.W.exmOne (PySem.Challenge.sb_head.heap_39 w.params) (.ref 44) (.ref 44) = some true := by
  refine' PySem.W.exm_ref ?a ?b ?c ?d
  (case a => k_is); (case b => k_is); (case c => k_is); (case d => first | rfl | k_is)
theorem e_cH_cL : PySem.W.exmOne (PySem.Challenge.sb_head.heap_39 w.params) (.ref 44) (.ref 63) = some false := by
  refine' PySem.W.exm_ref ?a ?b ?c ?d
  (case a => k_is); (case b => k_is); (case c => k_is); (case d => first | rfl | k_is)
theorem e_cH_cT : PySem.W.exmOne (PySem.Challenge.sb_head.heap_39 w.params) (.ref 44) (.ref 82) = some false := by
  refine' PySem.W.exm_ref ?a ?b ?c ?d
  (case a => k_is); (case b => k_is); (case c => k_is); (case d => first | rfl | k_is)
theorem e_cL_cH : PySem.W.exmOne (PySem.Challenge.sb_head.heap_39 w.params) (.ref 63) (.ref 44) = some false := by
  refine' PySem.W.exm_ref ?a ?b ?c ?d
  (case a => k_is); (case b => k_is); (case c => k_is); (case d => first | rfl | k_is)
theorem e_cL_cL : PySem.W.exmOne (PySem.Challenge.sb_head.heap_39 w.params) (.ref 63) (.ref 63) = some true := by
  refine' PySem.W.exm_ref ?a ?b ?c ?d
  (case a => k_is); (case b => k_is); (case c => k_is); (case d => first | rfl | k_is)
theorem e_cL_cT : PySem.W.exmOne (PySem.Challenge.sb_head.heap_39 w.params) (.ref 63) (.ref 82) = some false := by
  refine' PySem.W.exm_ref ?a ?b ?c ?d
  (case a => k_is); (case b => k_is); (case c => k_is); (case d => first | rfl | k_is)
theorem e_cT_cH : PySem.W.exmOne (PySem.Challenge.sb_head.heap_39 w.params) (.ref 82) (.ref 44) = some false := by
  refine' PySem.W.exm_ref ?a ?b ?c ?d
  (case a => k_is); (case b => k_is); (case c => k_is); (case d => first | rfl | k_is)
theorem e_cT_cL : PySem.W.exmOne (PySem.Challenge.sb_head.heap_39 w.params) (.ref 82) (.ref 63) = some false := by
  refine' PySem.W.exm_ref ?a ?b ?c ?d
  (case a => k_is); (case b => k_is); (case c => k_is); (case d => first | rfl | k_is)
theorem e_cT_cT : PySem.W.exmOne (PySem.Challenge.sb_head.heap_39 w.params) (.ref 82) (.ref 82) = some true := by
  refine' PySem.W.exm_ref ?a ?b ?c ?d
  (case a => k_is); (case b => k_is); (case c => k_is); (case d => first | rfl | k_is)
include X G
theorem e_BadHistory : Er (PySem.Challenge.sb_head.heap_39 w.params) mg "BadHistory" 44 41 (inClass (topS 2) 0) := by
  refine' er_mk (q0 := "BadHistory.__init__") X G ?a ?b ?c ?d ?e ?f ?g ?h ?i ?j ?k ?l ?m ?n ?o ?p ?q
  (case a => k_is); (case b => k_is); (case c => decide +kernel); (case d => k_is); (case e => k_is); (case f => k_is); (case g => k_is); (case h => k_is); (case i => k_is); (case j => k_is); (case k => k_is); (case l => k_is); (case m => k_is); (case n => decide +kernel); (case o => k_is); (case p => k_is)
  (case q => intro _ _ _ _ _ _ us hl; match us, hl with | [_, _], _ => rfl)
theorem e_BadLot : Er (PySem.Challenge.sb_head.heap_39 w.params) mg "BadLot" 63 60 (inClass (topS 3) 0) := by
  refine' er_mk (q0 := "BadLot.__init__") X G ?a ?b ?c ?d ?e ?f ?g ?h ?i ?j ?k ?l ?m ?n ?o ?p ?q
  (case a => k_is); (case b => k_is); (case c => decide +kernel); (case d => k_is); (case e => k_is); (case f => k_is); (case g => k_is); (case h => k_is); (case i => k_is); (case j => k_is); (case k => k_is); (case l => k_is); (case m => k_is); (case n => decide +kernel); (case o => k_is); (case p => k_is)
  (case q => intro _ _ _ _ _ _ us hl; match us, hl with | [_, _], _ => rfl)
theorem e_BadThing : Er (PySem.Challenge.sb_head.heap_39 w.params) mg "BadThing" 82 79 (inClass (topS 4) 0) := by
  refine' er_mk (q0 := "BadThing.__init__") X G ?a ?b ?c ?d ?e ?f ?g ?h ?i ?j ?k ?l ?m ?n ?o ?p ?q
  (case a => k_is); (case b => k_is); (case c => decide +kernel); (case d => k_is); (case e => k_is); (case f => k_is); (case g => k_is); (case h => k_is); (case i => k_is); (case j => k_is); (case k => k_is); (case l => k_is); (case m => k_is); (case n => decide +kernel); (case o => k_is); (case p => k_is)
  (case q => intro _ _ _ _ _ _ us hl; match us, hl with | [_, _], _ => rfl)
theorem tx : Tx ⟨94, 95, 96, 85, 44, 63, 82, 41, 60, 79⟩ (PySem.Challenge.sb_head.heap_39 w.params) w mg where
  d_is_integer := h_is_integer X G
  d_is_value := h_is_value X G
  d_is_sort := h_is_sort X G
  d_words_of := h_words_of X G
  d_is_word_of := h_is_word_of X G
  d_can_give := h_can_give X G
  d_can_tell := h_can_tell X G
  d_is_doing := h_is_doing X G
  d_is_call := h_is_call X G
  d_are_sorts := h_are_sorts X G
  d_are_unlike := h_are_unlike X G
  d_givers_of := h_givers_of X G
  d_are_calls := h_are_calls X G
  d_are_in_time := h_are_in_time X G
  d_fault_of := h_fault_of X G
  d_need_history := h_need_history X G
  d_need_thing := h_need_thing X G
  d_is_before := h_is_before X G
  d_all_ahead := h_all_ahead X G
  d_are_numbers := h_are_numbers X G
  d_is_order_in := h_is_order_in X G
  d_is_order := h_is_order X G
  d_need_lot := h_need_lot X G
  d_with_numbers := h_with_numbers X G
  d_calls_of_lot := h_calls_of_lot X G
  d_part_in := h_part_in X G
  d_history_of_thing := h_history_of_thing X G
  d__law_mixed := h__law_mixed X G
  d__law_begin := h__law_begin X G
  d__law_draw := h__law_draw X G
  d__law_of := h__law_of X G
  d__law_store := h__law_store X G
  d__law_taken := h__law_taken X G
  d__law_do := h__law_do X G
  d__law_value := h__law_value X G
  d__law_word := h__law_word X G
  d__law_row := h__law_row X G
  d__law_history := h__law_history X G
  d__law_other := h__law_other X G
  d__law_bent := h__law_bent X G
  d__law_is_whole := h__law_is_whole X G
  d__law_sorts := h__law_sorts X G
  d__law_drawn := h__law_drawn X G
  d__law_any_order := h__law_any_order X G
  d__law_is_order := h__law_is_order X G
  d__law_twisted := h__law_twisted X G
  d__law_heard := h__law_heard X G
  d__law_orders_good := h__law_orders_good X G
  d__law_numbers_good := h__law_numbers_good X G
  d__law_is_lot := h__law_is_lot X G
  d__law_lots_good := h__law_lots_good X G
  d__law_things_good := h__law_things_good X G
  d_law := h_law X G
  len := z_len X G
  range := z_range X G
  isinstance := z_isinstance X G
  int := z_int X G
  bool := z_bool X G
  list := z_list X G
  tuple := z_tuple X G
  sorted := z_sorted X G
  min := z_min X G
  max := z_max X G
  zip := z_zip X G
  enumerate := z_enumerate X G
  all := z_all X G
  any := z_any X G
  set := z_set X G
  repr := z_repr X G
  str := z_str X G
  MOST_VALUE := k_MOST_VALUE X G
  MOST_CALLS := k_MOST_CALLS X G
  MOST_THINGS := k_MOST_THINGS X G
  MOST_ROOM := k_MOST_ROOM X G
  ROOM := k_ROOM X G
  GIVERS := m_GIVERS X G
  ASKERS := m_ASKERS X G
  NUMBERS := m_NUMBERS X G
  WORDS := m_WORDS X G
  giv := t_giv
  ask := t_ask
  num := t_num
  words := t_words
  w_cell := w_cell
  w_queue := w_queue
  w_stack := w_stack
  w_heads := w_heads
  w_counter := w_counter
  w_tickets := w_tickets
  w_set := w_set
  w_room := w_room
  eH := e_BadHistory X G
  eL := e_BadLot X G
  eT := e_BadThing X G
  mHH := e_cH_cH
  mHL := e_cH_cL
  mHT := e_cH_cT
  mLH := e_cL_cH
  mLL := e_cL_cL
  mLT := e_cL_cT
  mTH := e_cT_cH
  mTL := e_cT_cL
  mTT := e_cT_cT
def us : Us := ⟨402, 400, 407, 405, 412, 410⟩
theorem ux {base : Heap} (tb : ∀ p ∈ [((402 : Addr), (400 : Addr)), (407, 405), (412, 410)], TabB base mg p.1 p.2) : Ux (PySem.Challenge.sb_head.heap_39 w.params) mg base us where
  lots := g__law_lots_good X G
  things := g__law_things_good X G
  tl := tb _ List.mem_cons_self
  tt := tb _ (List.mem_cons_of_mem _ List.mem_cons_self)
  tw := tb _ (List.mem_cons_of_mem _ (List.mem_cons_of_mem _ List.mem_cons_self))
  n1 := by decide
  n2 := by decide
  n3 := by decide
end
end SB
end

section
set_option Elab.async false
set_option linter.all false
open PySem PySem.W PyProof.Rows
set_option maxRecDepth 100000 in
set_option maxHeartbeats 8000000 in
theorem PySem.Challenge.cw_shortbars_k01_whole_orders_and_lots_holds : PySem.Challenge.rw_shortbars_k01_whole_orders_and_lots.Holds := by
  refine PySem.Challenge.sb_head (SB.walk_G (l := PySem.Challenge.rw_shortbars_k01_whole_orders_and_lots) (n := 63) (k := 13) (x := "_law_script") rfl (by decide) rfl ⟨rfl, by decide, by decide⟩ (fun w h Y => PySem.W.km_in_of Y) fun w mg fa h X G hmg tab => ?_)
  have hm : mg "law" = some (.ref fa) := hmg
  obtain ⟨f, fd, F, b, hc⟩ := (SB.g_law X G).ex
  have e := hm.symm.trans F.mgf
  injection e with e
  injection e with e
  subst e
  have left : ∀ p ∈ [((402 : Addr), (400 : Addr)), (407, 405), (412, 410)], (h.get? p.2 = some SB.tObj ∧ PySem.W.CodeHd h p.1 p.2) ∧ (PySem.Challenge.sb_head.heap_39 w.params).lookup p.2 = none := fun p hp => by
    have one : ∀ {x : Str} {st : Stmt} {ps : List Str} {c P : Addr}, SB.DFc (PySem.Challenge.sb_head.heap_39 w.params) mg x st ps c → ((recsOf PySem.Challenge.sb_head.view_39).any fun e => e.name == x) = true → PySem.W.codeHdIn (PySem.Challenge.sb_head.heap_39 w.params) c P = true → h.get? P = some SB.tObj ∧ PySem.W.CodeHd h c P := fun D hx hh => by
      obtain ⟨f, fd, F, b, hc⟩ := D.ex
      obtain ⟨oc, od, dV, kV, doc, pm, an, cdv, ct, osl, rfl, lk, _⟩ := F.fn.ex
      exact SB.tab_left X tab hx F.mgf lk hc hh
    simp only [List.mem_cons, List.not_mem_nil, or_false] at hp
    rcases hp with rfl | rfl | rfl
    · exact ⟨one (SB.g__law_lots_good X G) (by decide +kernel) (by rfl), by rfl⟩
    · exact ⟨one (SB.g__law_things_good X G) (by decide +kernel) (by rfl), by rfl⟩
    · exact ⟨one (SB.g_law X G) (by decide +kernel) (by rfl), by rfl⟩
  refine ⟨fd, [(402, 400), (407, 405), (412, 410)], SB.spLaw _ SB.us, left, fun s u hs => ?_, fun H a ns hl hT hS => ⟨a, ns, rfl, hS, hl, fun p hp => ?_, fun _ => rfl⟩, fun base KX GX TB => SB.c_law (SB.tx X G) (SB.ux X G TB) F.fn hc⟩
  · have q := b s [u] hs rfl
    rw [List.append_nil] at q
    exact q
  · have hp : p ∈ [((400 : Addr), ("_law_lots_good.<locals>.<lambda>" : Str)), (405, "_law_things_good.<locals>.<lambda>"), (410, "law.<locals>.<lambda>")] := hp
    simp only [List.mem_cons, List.not_mem_nil, or_false] at hp
    rcases hp with rfl | rfl | rfl
    · exact LamX.TabS.nil (hT _ List.mem_cons_self)
    · exact LamX.TabS.nil (hT _ (List.mem_cons_of_mem _ List.mem_cons_self))
    · exact LamX.TabS.nil (hT _ (List.mem_cons_of_mem _ (List.mem_cons_of_mem _ List.mem_cons_self)))
end
