import PyProof.Rows.All
import Wide.All
import OpenK.AllK
import Wide.FinOn
import HandS.Lambda
import HandS.ForMost
import HandS.Small
import HandS.Iter
import HandS.TupAny
import HandS.TupLe
import HandS.More
import HandS.IsInst
import HandS.Strs
import KE.SortData
import HandS.Style
import HandS.Deep
import HandS.Zip
import HandS.Rev
import HandS.NoneIn
import HandS.DictComp
import HandS.Defaults
import PyProof.ReprRoads
import KE.KRevSl
import HandS.Text
import HandS.Ends
import KE.GoesEnum
import KE.KDictZip
import KE.SortKeyHeap
import KE.KSortKey
import HandS.EndTab
import KE.Datum
import HandS.StrMore
import HandS.SetTxt0
import HandS.Set
import HandS.TupSets
import KE.KDictSum
import PyProof.AutoIntOps
import HandS.List
import KE.KDictList
import KE.DataMinMax
import PyProof.Rows.CountFlat
import HandS.RaiseMore
import HandS.Call
import KE.KEqNest
import HandS.DictEq
import HandS.OwnEq
import HandS.Exc
import HandS.ExcOwn
import HandS.ExcIs
import KE.KExcIs
import HandS.Zip0
import KE.GoesMore
import PyProof.StrBlock2
import PySem.Challenge.RW_standby_k00_rows_or_not
set_option Elab.async false
set_option linter.all false
set_option maxRecDepth 100000
set_option maxRecDepth 100000
set_option maxHeartbeats 4000000
namespace DL
open PySem PySem.Spec PyProof.Rows L2
class HW where
  P : Program
  w : World
def HWX [HW] (X : Cx) : Prop := HW.P = X.prog ∧ HW.w = X.w
abbrev KA := List Key × Addr × V
def KR : List KA → List (List Key × Addr × Value) → Prop := Paired fun p q => p.1 = q.1 ∧ p.2.1 = q.2.1 ∧ RelV p.2.2 q.2.2
def dtP (P : Program) (w : World) (a : Addr) (ks : List KA) (h : Heap) : Prop := ks.length ≤ sizeLine ∧ (a == sysModules) = false ∧ ∃ xs : List (List Key × Addr × Value), KR ks xs ∧
  ∃ o es ep, h.get? a = some o ∧ o.ExactDict ∧ o.data = .dict es ep ∧ es.toList = xs.map (entryOfKey (tupleKind (mixKind P w))) ∧ (xs.map (·.1)).Nodup
abbrev dtO [HW] (a : Addr) (ks : List KA) : HO := .ext (dtP HW.P HW.w a ks)
def KX (H : Hp) (ks : List KA) : Prop := ∀ p ∈ ks, Rd H p.2.1 (.tup (p.1.map kV))
def atA (ks : List KA) (k : List Key) : Option (Addr × V) := (ks.find? fun x => decide (x.1 = k)).map (·.2)
def valA (ks : List KA) (k : List Key) : Option V := (atA ks k).map (·.2)
def replA (k : List Key) (v : V) (p : KA) : KA := if p.1 = k then (p.1, p.2.1, v) else p
def putA (ks : List KA) (k : List Key) (b : Addr) (v : V) : List KA := if (atA ks k).isSome = true then ks.map (replA k v) else ks ++ [(k, b, v)]
section
variable {P : Program} {w : World} {H : Hp} {h : Heap} {a : Addr}
theorem KR.len {ks : List KA} {xs : List (List Key × Addr × Value)} (r : KR ks xs) : ks.length = xs.length := Paired.length r
theorem KR.at_ {k : List Key} : ∀ {ks : List KA} {xs : List (List Key × Addr × Value)}, KR ks xs → RelO (valA ks k) ((atKey xs k).map (·.2)) ∧ (atA ks k).isSome = (atKey xs k).isSome
  | _, _, .nil => ⟨trivial, rfl⟩
  | (k1, q1, v1) :: ks, (k2, q2, u2) :: xs, .cons ⟨e1, e2, r⟩ t => by
    have e1 : k1 = k2 := e1
    subst e1
    have ih := KR.at_ (k := k) t
    unfold valA atA atKey at ih ⊢
    simp only [List.find?_cons]
    by_cases e : k1 = k
    · simp only [e, decide_true, Option.map_some]
      exact ⟨r, rfl⟩
    · simp only [e, decide_false]
      exact ih
theorem key_ofR {ks : List Key} (ok : HOk P w H h) (e : Rd H a (.tup (ks.map kV))) : (tupleKind (mixKind P w)).is h ks a := by
  obtain ⟨_, its, r, o, h1, h2, n, h3⟩ := (show ObjOk P w H h a (.tup (ks.map kV)) from rd_of ok e)
  exact ⟨o, its.toArray, n, h1, h2, h3, by simpa using items_are r⟩
theorem dtx_of {ks : List KA} (ok : HOk P w H h) (e : dtP P w a ks h) (hk : KX H ks) : ks.length ≤ sizeLine ∧ (a == sysModules) = false ∧ ∃ xs, KR ks xs ∧ h.DictOfH (tupleKind (mixKind P w)) a xs := by
  obtain ⟨z, y, xs, r, o, es, ep, h1, h2, h3, h4, h5⟩ := e
  refine ⟨z, y, xs, r, o, es, ep, h1, h2, h3, h4, fun x hx => ?_, h5⟩
  have all : ∀ {l : List KA} {m : List (List Key × Addr × Value)}, KR l m → KX H l → ∀ x ∈ m, (tupleKind (mixKind P w)).is h x.1 x.2.1 := by
    intro l m q
    induction q with
    | nil => intro _ x hx; exact nomatch hx
    | @cons p q ps qs hq t ih =>
      intro hk x hx
      rcases List.mem_cons.mp hx with e | hx
      · subst e
        have := hk p List.mem_cons_self
        rw [hq.1, hq.2.1] at this
        exact key_ofR ok this
      · exact ih (fun p hp => hk p (List.mem_cons_of_mem _ hp)) x hx
  exact all r hk x hx
theorem KR.repl (k : List Key) {v : V} {u : Value} (rv : RelV v u) : ∀ {ks : List KA} {xs : List (List Key × Addr × Value)}, KR ks xs → KR (ks.map (replA k v)) (xs.map (putAt k u))
  | _, _, .nil => .nil
  | p :: ks, q :: xs, .cons ⟨e1, e2, r⟩ t => by
    rw [List.map_cons, List.map_cons]
    refine .cons ?_ (KR.repl k rv t)
    unfold replA putAt
    by_cases e : p.1 = k
    · rw [if_pos e, if_pos (e1.symm.trans e)]; exact ⟨e1, e2, rv⟩
    · rw [if_neg e, if_neg fun z => e (e1.trans z)]; exact ⟨e1, e2, r⟩
theorem KR.put {ks : List KA} {xs : List (List Key × Addr × Value)} (r : KR ks xs) (k : List Key) (b : Addr) {v : V} {u : Value} (rv : RelV v u) : KR (putA ks k b v) (storedH xs k b u) := by
  unfold putA storedH
  rw [(r.at_ (k := k)).2]
  by_cases q : (atKey xs k).isSome = true
  · rw [if_pos q, if_pos q]; exact r.repl k rv
  · rw [if_neg q, if_neg q]; exact Paired.snoc r ⟨rfl, rfl, rv⟩
theorem KX.put {ks : List KA} (hk : KX H ks) {k : List Key} {b : Addr} (v : V) (eb : Rd H b (.tup (k.map kV))) : KX H (putA ks k b v) := by
  intro p hp
  unfold putA at hp
  split at hp
  · obtain ⟨q, hq, rfl⟩ := List.mem_map.mp hp
    have := hk q hq
    unfold replA
    split
    · exact this
    · exact this
  · rcases List.mem_append.mp hp with z | z
    · exact hk p z
    · rcases List.mem_singleton.mp z with rfl
      exact eb
theorem KX.nil : KX H [] := fun p hp => nomatch hp
theorem dtx_rd {φ : Heap → Prop} (ok : HOk P w H h) (e : Rd H a (.ext φ)) : φ h := (show ObjOk P w H h a (.ext φ) from rd_of ok e).1
end
section
variable [HW] {X : Cx} {pins : List (Addr × Obj)} {σ : L2.St} {H : Hp} {s : Shared} {a b : Addr} {ks : List KA} {k : List Key} {v : V} {r : Value} {A : Around} {E : Value → Shared → Prop}
theorem dtxI (W : HWX X) (I : Inv X pins σ H s) (e : Rd H a (dtO a ks)) (hk : KX H ks) : ks.length ≤ sizeLine ∧ (a == sysModules) = false ∧ ∃ xs, KR ks xs ∧ s.heap.DictOfH (tupleKind (mixKind X.prog X.w)) a xs := by
  unfold dtO at e
  rw [W.1, W.2] at e
  exact dtx_of I.hok (dtx_rd I.hok e) hk
theorem dtx_getItem {Q : Value → Shared → Prop} (hu : A.units + 1 < cLine) (W : HWX X) (I : Inv X pins σ H s) (e : Rd H a (dtO a ks)) (hk : KX H ks) (eb : Rd H b (.tup (k.map kV))) (l : valA ks k = some v) (h : ∀ w' s', Inv X pins σ H s' → RelV v w' → Q w' s') :
    wpAny (model X.prog X.w) A (getItem (.ref a) (.ref b)) Q E s := by
  obtain ⟨z, hd, xs, rel, dd⟩ := dtxI W I e hk
  obtain ⟨w', hw, rw'⟩ := RelO.some_of (v := v) (o := (atKey xs k).map (·.2)) (by have := (rel.at_ (k := k)).1; rw [l] at this; exact this)
  obtain ⟨p, hp, hp2⟩ := Option.map_eq_some_iff.mp hw
  refine wpAny_getItem_heap (tupleKind_room_in1 hu) (key_ofR I.hok eb) dd hp ?_
  rw [hp2]
  exact h w' _ (I.tok _) rw'
theorem valA_some {ks : List KA} {k : List Key} : (valA ks k).isSome = (atA ks k).isSome := by unfold valA; rw [Option.isSome_map]
theorem dtx_in {Q : Value → Shared → Prop} (hu : A.units + 1 < cLine) (W : HWX X) (I : Inv X pins σ H s) (e : Rd H a (dtO a ks)) (hk : KX H ks) (eb : Rd H b (.tup (k.map kV))) (h : ∀ s', Inv X pins σ H s' → Q (.bool (valA ks k).isSome) s') :
    wpAny (model X.prog X.w) A (compareOp .In (.ref b) (.ref a)) Q E s := by
  obtain ⟨z, hd, xs, rel, dd⟩ := dtxI W I e hk
  refine wpAny_in_heap (tupleKind_room_in1 hu) (key_ofR I.hok eb) hd dd ?_
  rw [← (rel.at_ (k := k)).2, ← valA_some]
  exact h _ (I.tok _)
theorem KX.to {H' : Hp} (hk : KX H ks) (f : ∀ q o, (∃ p ∈ ks, p.2.1 = q) → H q = some o → H' q = some o) : KX H' ks := fun p hp => by
  rcases hk p hp with e | ⟨o, e⟩
  · exact .inl (f _ _ ⟨p, hp, rfl⟩ e)
  · exact .inr ⟨o, f _ _ ⟨p, hp, rfl⟩ e⟩
def DGetX (H : Hp) (a : Addr) (y : V) (r : Option V) : Prop := DGet H a y r ∨ ∃ ks k b, Rd H a (dtO a ks) ∧ KX H ks ∧ y = .ref b ∧ Rd H b (.tup (k.map kV)) ∧ r = valA ks k
theorem dx_getItem {y : V} {u : Value} {Q : Value → Shared → Prop} (hu : A.units + 1 < cLine) (W : HWX X) (I : Inv X pins σ H s) (g : DGetX H a y (some v)) (ry : RelV y u) (h : ∀ w' s', Inv X pins σ H s' → RelV v w' → Q w' s') :
    wpAny (model X.prog X.w) A (getItem (.ref a) u) Q E s := by
  rcases g with g | ⟨ks, k, b, e, hk, ey, eb, l⟩
  · exact d_getItem hu I g ry h
  · subst ey
    cases (show u = Value.ref b from ry)
    exact dtx_getItem hu W I e hk eb l.symm h
theorem dx_in {y : V} {u : Value} {o : Option V} {Q : Value → Shared → Prop} (hu : A.units + 1 < cLine) (W : HWX X) (I : Inv X pins σ H s) (g : DGetX H a y o) (ry : RelV y u) (h : ∀ s', Inv X pins σ H s' → Q (.bool o.isSome) s') :
    wpAny (model X.prog X.w) A (compareOp .In u (.ref a)) Q E s := by
  rcases g with g | ⟨ks, k, b, e, hk, ey, eb, l⟩
  · exact d_in hu I g ry h
  · subst ey l
    cases (show u = Value.ref b from ry)
    exact dtx_in hu W I e hk eb h
theorem dx_typeIs {y : V} {o : Option V} (W : HWX X) (I : Inv X pins σ H s) (g : DGetX H a y o) : s.TypeIs (.ref a) "dict" := by
  rcases g with g | ⟨ks, k, b, e, hk, _, _, _⟩
  · exact dict_typeIs I g
  · obtain ⟨_, _, xs, _, dd⟩ := dtxI W I e hk
    exact dd.typeIs
end
section
variable [HW] {X : Cx} {pins : List (Addr × Obj)} {σ : L2.St} {H : Hp} {s : Shared} {d : Addr} {o : Obj} {ks : List KA}
theorem KR.get : ∀ {ks : List KA} {xs : List (List Key × Addr × Value)} {i : Nat} {k : List Key} {q : Addr} {v : V}, KR ks xs → ks[i]? = some (k, q, v) → ∃ u, xs[i]? = some (k, q, u) ∧ RelV v u
  | _, _, _, _, _, _, .nil, e => by simp at e
  | _, (k', q', u') :: _, 0, _, _, _, .cons ⟨e1, e2, r⟩ _, e => by
    simp at e; subst e
    have e1 : _ = k' := e1
    have e2 : _ = q' := e2
    subst e1 e2
    exact ⟨u', rfl, r⟩
  | _, _, i + 1, _, _, _, .cons _ t, e => by
    obtain ⟨u, h1, h2⟩ := KR.get (i := i) t (by simpa using e)
    exact ⟨u, by simpa using h1, h2⟩
end
end DL
set_option maxRecDepth 100000
set_option maxHeartbeats 4000000
namespace DL
open PySem PySem.Spec PyProof.Rows L2
variable [HW]
abbrev D := PyData
structure Mm where
  u : List Addr
  m : List (Option Addr)
def Mm.Has (M : Mm) (a : Addr) : Prop := a ∈ M.u ∨ some a ∈ M.m
def kP : Key → D
  | .inl i => .int i
  | .inr s => .str s
def prTx : List D → Option (List (Str × Str))
  | [] => some []
  | .tuple [.str a, .str b] :: ds => (prTx ds).map ((a, b) :: ·)
  | _ :: _ => none
def rowS : List D → Option (List Str)
  | [] => some []
  | .str a :: ds => (rowS ds).map (a :: ·)
  | _ :: _ => none
def pairD (ds : List D) : Bool := match prTx ds with
  | some ps => !ps.isEmpty && decide (ps.map (·.1)).Nodup
  | none => false
def rowD (ds : List D) : Bool := match rowS ds with
  | some l => !l.isEmpty
  | none => false
def callD (ds : List D) : Bool := pairD ds || rowD ds
def TupAt (H : Hp) (a : Addr) (xs : List V) (ds : List D) : Prop := (callD ds = false ∧ H a = some (.tup xs)) ∨ (callD ds = true ∧ ∃ o : Obj, o.dict = none ∧ H a = some (.frz o (.tup xs)))
theorem TupAt.to {H H' : Hp} {a : Addr} {xs : List V} {ds : List D} (t : TupAt H a xs ds) (f : ∀ o, H a = some o → H' a = some o) : TupAt H' a xs ds := by
  rcases t with ⟨c, e⟩ | ⟨c, o, h, e⟩
  · exact .inl ⟨c, f _ e⟩
  · exact .inr ⟨c, o, h, f _ e⟩
theorem TupAt.some_ {H : Hp} {a : Addr} {xs : List V} {ds : List D} (t : TupAt H a xs ds) : ∃ o, H a = some o := by
  rcases t with ⟨c, e⟩ | ⟨c, o, h, e⟩
  · exact ⟨_, e⟩
  · exact ⟨_, e⟩
theorem TupAt.rd {H : Hp} {a : Addr} {xs : List V} {ds : List D} (t : TupAt H a xs ds) : Rd H a (.tup xs) := by
  rcases t with ⟨c, e⟩ | ⟨c, o, h, e⟩
  · exact .inl e
  · exact .inr ⟨o, e⟩
theorem TupAt.sq {K : PySem.W.Frag} {H : Hp} {a : Addr} {xs : List V} {ds : List D} (t : TupAt H a xs ds) : SqT K H a xs := .inl t.rd
theorem TupAt.plain {H : Hp} {a : Addr} {xs : List V} {ds : List D} (t : TupAt H a xs ds) (c : callD ds = false) : H a = some (.tup xs) := by
  rcases t with ⟨_, e⟩ | ⟨c', _⟩
  · exact e
  · rw [c] at c'; cases c'
mutual
inductive RD (M : Mm) (H : Hp) : V → D → Prop
  | non : RD M H .non .none
  | bl (b : Bool) : RD M H (.bl b) (.bool b)
  | int (i : Int) : RD M H (.int i) (.int i)
  | str (x : Str) : RD M H (.str x) (.str x)
  | tup {a : Addr} {xs : List V} {ds : List D} : ¬ M.Has a → TupAt H a xs ds → RDs M H xs ds → RD M H (.ref a) (.tuple ds)
  | lst {a : Addr} {xs : List V} {ds : List D} : ¬ M.Has a → H a = some (.lst xs) → RDs M H xs ds → RD M H (.ref a) (.list ds)
  | dic {a : Addr} {kvs : List (Key × V)} {es : List (D × D)} : ¬ M.Has a → H a = some (.dK kvs) → RDk M H kvs es → RD M H (.ref a) (.dict es)
  | dit {a : Addr} {o : Obj} {kvs : List KA} {es : List (D × D)} : ¬ M.Has a → H a = some (.frz o (dtO a kvs)) → RDt M H kvs es → RD M H (.ref a) (.dict ((.none, .none) :: es))
inductive RDs (M : Mm) (H : Hp) : List V → List D → Prop
  | nil : RDs M H [] []
  | cons {v : V} {vs : List V} {d : D} {ds : List D} : RD M H v d → RDs M H vs ds → RDs M H (v :: vs) (d :: ds)
inductive RDk (M : Mm) (H : Hp) : List (Key × V) → List (D × D) → Prop
  | nil : RDk M H [] []
  | cons {k : Key} {v : V} {d : D} {kvs : List (Key × V)} {es : List (D × D)} : RD M H v d → RDk M H kvs es → RDk M H ((k, v) :: kvs) ((kP k, d) :: es)
inductive RDt (M : Mm) (H : Hp) : List KA → List (D × D) → Prop
  | nil : RDt M H [] []
  | cons {k : List Key} {q : Addr} {v : V} {d : D} {kvs : List KA} {es : List (D × D)} : ¬ M.Has q → TupAt H q (k.map kV) (k.map kP) → RD M H v d → RDt M H kvs es → RDt M H ((k, q, v) :: kvs) ((.tuple (k.map kP), d) :: es)
end

structure Ext (M M' : Mm) (H H' : Hp) : Prop where
  us : ∀ a ∈ M'.u, a ∈ M.u ∨ H a = none
  trk : ∀ a o, H a = some o → ∃ o', H' a = some o'
  stab : ∀ a o, H a = some o → some a ∉ M.m → H' a = some o
  fresh : ∀ a, some a ∈ M'.m → some a ∈ M.m ∨ H a = none
  len : M.m.length ≤ M'.m.length
  kill : ∀ i : Nat, i < M.m.length → M'.m[i]? = M.m[i]? ∨ M'.m[i]? = some none
structure ExtE (M M' : Mm) (H H' : Hp) : Prop where
  same : M'.u = M.u
  trk : ∀ a o, H a = some o → ∃ o', H' a = some o'
  stab : ∀ a o, H a = some o → some a ∉ M.m → H' a = some o
  fresh : ∀ a, some a ∈ M'.m → some a ∈ M.m ∨ H a = none
  len : M.m.length ≤ M'.m.length
  pre : ∀ i : Nat, i < M.m.length → M'.m[i]? = M.m[i]?
theorem ExtE.ext {M M' : Mm} {H H' : Hp} (x : ExtE M M' H H') : Ext M M' H H' := ⟨fun a m => .inl (x.same ▸ m), x.trk, x.stab, x.fresh, x.len, fun i h => .inl (x.pre i h)⟩
theorem Ext.outm {M M' : Mm} {H H' : Hp} (x : Ext M M' H H') {a : Addr} {o : HO} (n : some a ∉ M.m) (e : H a = some o) : some a ∉ M'.m := fun m =>
  (x.fresh a m).elim n fun z => by rw [e] at z; cases z
theorem Ext.out {M M' : Mm} {H H' : Hp} (x : Ext M M' H H') {a : Addr} {o : HO} (n : ¬ M.Has a) (e : H a = some o) : ¬ M'.Has a := fun m => by
  rcases m with m | m
  · exact (x.us a m).elim (fun z => n (.inl z)) fun z => by rw [e] at z; cases z
  · exact x.outm (fun z => n (.inr z)) e m
theorem Ext.st {M M' : Mm} {H H' : Hp} (x : Ext M M' H H') {a : Addr} {o : HO} (n : ¬ M.Has a) (e : H a = some o) : H' a = some o := x.stab a o e fun z => n (.inr z)
theorem Ext.refl (M : Mm) (H : Hp) : Ext M M H H := ⟨fun _ m => .inl m, fun a o e => ⟨o, e⟩, fun _ _ e _ => e, fun _ m => .inl m, Nat.le_refl _, fun _ _ => .inl rfl⟩
theorem ExtE.refl (M : Mm) (H : Hp) : ExtE M M H H := ⟨rfl, fun a o e => ⟨o, e⟩, fun _ _ e _ => e, fun _ m => .inl m, Nat.le_refl _, fun _ _ => rfl⟩
theorem Ext.trans {M M1 M2 : Mm} {H H1 H2 : Hp} (x : Ext M M1 H H1) (y : Ext M1 M2 H1 H2) : Ext M M2 H H2 where
  us := fun a m => by
    rcases y.us a m with z | z
    · exact x.us a z
    · right
      cases q : H a with
      | none => rfl
      | some o => obtain ⟨o', e⟩ := x.trk a o q; rw [z] at e; cases e
  trk := fun a o e => by obtain ⟨o', e'⟩ := x.trk a o e; exact y.trk a o' e'
  stab := fun a o e n => y.stab a o (x.stab a o e n) (x.outm n e)
  fresh := fun a m => by
    rcases y.fresh a m with m1 | z
    · exact x.fresh a m1
    · by_cases hm : some a ∈ M.m
      · exact .inl hm
      · right
        cases q : H a with
        | none => rfl
        | some o => rw [x.stab a o q hm] at z; cases z
  len := Nat.le_trans x.len y.len
  kill := fun i h => by
    rcases y.kill i (Nat.lt_of_lt_of_le h x.len) with e | e
    · rw [e]; exact x.kill i h
    · exact .inr e
theorem ExtE.trans {M M1 M2 : Mm} {H H1 H2 : Hp} (x : ExtE M M1 H H1) (y : ExtE M1 M2 H1 H2) : ExtE M M2 H H2 where
  same := y.same.trans x.same
  trk := (x.ext.trans y.ext).trk
  stab := (x.ext.trans y.ext).stab
  fresh := (x.ext.trans y.ext).fresh
  len := Nat.le_trans x.len y.len
  pre := fun i h => by rw [y.pre i (Nat.lt_of_lt_of_le h x.len), x.pre i h]
mutual
theorem RD.mono {M M' : Mm} {H H' : Hp} (x : Ext M M' H H') : ∀ {v : V} {d : D}, RD M H v d → RD M' H' v d
  | _, _, .non => .non
  | _, _, .bl b => .bl b
  | _, _, .int i => .int i
  | _, _, .str s => .str s
  | _, _, .tup n e r => .tup (let ⟨_, q⟩ := e.some_; x.out n q) (e.to fun _ q => x.st n q) (RDs.mono x r)
  | _, _, .lst n e r => .lst (x.out n e) (x.st n e) (RDs.mono x r)
  | _, _, .dic n e r => .dic (x.out n e) (x.st n e) (RDk.mono x r)
  | _, _, .dit n e r => .dit (x.out n e) (x.st n e) (RDt.mono x r)
theorem RDs.mono {M M' : Mm} {H H' : Hp} (x : Ext M M' H H') : ∀ {v : List V} {d : List D}, RDs M H v d → RDs M' H' v d
  | _, _, .nil => .nil
  | _, _, .cons a r => .cons (RD.mono x a) (RDs.mono x r)
theorem RDk.mono {M M' : Mm} {H H' : Hp} (x : Ext M M' H H') : ∀ {v : List (Key × V)} {d : List (D × D)}, RDk M H v d → RDk M' H' v d
  | _, _, .nil => .nil
  | _, _, .cons a r => .cons (RD.mono x a) (RDk.mono x r)
theorem RDt.mono {M M' : Mm} {H H' : Hp} (x : Ext M M' H H') : ∀ {v : List KA} {d : List (D × D)}, RDt M H v d → RDt M' H' v d
  | _, _, .nil => .nil
  | _, _, .cons n e a r => .cons (let ⟨_, q⟩ := e.some_; x.out n q) (e.to fun _ q => x.st n q) (RD.mono x a) (RDt.mono x r)
end

theorem RDt.kx {M : Mm} {H : Hp} : ∀ {ks : List KA} {es : List (D × D)}, RDt M H ks es → KX H ks
  | _, _, .nil => KX.nil
  | _, _, .cons n e a r => fun p hp => by
    rcases List.mem_cons.mp hp with z | z
    · subst z; exact e.rd
    · exact RDt.kx r p z
def RF (M : Mm) (H : Hp) (gs : List (Str × V)) (fs : List (Str × D)) : Prop := Paired (fun (p : Str × V) (q : Str × D) => p.1 = q.1 ∧ RD M H p.2 q.2) gs fs
theorem RF.to {M M' : Mm} {H H' : Hp} {gs : List (Str × V)} {fs : List (Str × D)} (r : RF M H gs fs) (h : ∀ v d, RD M H v d → RD M' H' v d) : RF M' H' gs fs := Paired.mapP r fun p q z => ⟨z.1, h _ _ z.2⟩
def XO (C : Addr) (d : Option Addr) (a : Addr) : HO := .ext fun h => ∃ (oe : Obj) (vs : Array Value), h.get? a = some oe ∧ oe.cls = .ref C ∧ oe.dict = d ∧ oe.data = .fields vs
def xk : HO → Bool
  | .ext _ => true
  | .xd _ => true
  | _ => false
def XD (M : Mm) (H : Hp) : Option Addr → List (Str × V) → Prop
  | none, gs => gs = []
  | some d, gs => ¬ M.Has d ∧ H d = some (.xd gs)
theorem XD.to {M M' : Mm} {H H' : Hp} (hn : ∀ b o, H b = some o → ¬ M.Has b → ¬ M'.Has b) (he : ∀ b o, H b = some o → xk o = true → ¬ M.Has b → H' b = some o) : ∀ {d : Option Addr} {gs : List (Str × V)}, XD M H d gs → XD M' H' d gs
  | none, _, e => e
  | some _, _, e => ⟨hn _ _ e.2 e.1, he _ _ e.2 rfl e.1⟩
def RX (M : Mm) (H : Hp) (a C : Addr) (d : Option Addr) (gs : List (Str × V)) (fs : List (Str × D)) : Prop := ¬ M.Has a ∧ H a = some (XO C d a) ∧ XD M H d gs ∧ RF M H gs fs
theorem RX.to {M M' : Mm} {H H' : Hp} {a C : Addr} {d : Option Addr} {gs : List (Str × V)} {fs : List (Str × D)} (r : RX M H a C d gs fs) (hn : ∀ b o, H b = some o → ¬ M.Has b → ¬ M'.Has b) (he : ∀ b o, H b = some o → xk o = true → ¬ M.Has b → H' b = some o) (hd : ∀ v d, RD M H v d → RD M' H' v d) : RX M' H' a C d gs fs :=
  ⟨hn _ _ r.2.1 r.1, he _ _ r.2.1 rfl r.1, r.2.2.1.to hn he, r.2.2.2.to hd⟩
inductive OI where
  | ins (C : Addr) (fs : List (Str × D)) | exc (k : Nat) (C : Addr) (fs : List (Str × D))
def xo : HO → Bool
  | .ext _ => true
  | .xd _ => true
  | .ins _ _ _ => true
  | .lst _ => true
  | _ => false
theorem xo_of {o : HO} (h : xk o = true) : xo o = true := by
  cases o <;> first | rfl | cases h
def ROI (M : Mm) (H : Hp) (v : V) : OI → Prop
  | .ins C fs => ∃ a dx gs, v = .ref a ∧ ¬ M.Has a ∧ H a = some (.ins C dx gs) ∧ RF M H gs fs
  | .exc _ C fs => ∃ a d gs, v = .ref a ∧ RX M H a C d gs fs
theorem ROI.to {M M' : Mm} {H H' : Hp} {v : V} (hn : ∀ b o, H b = some o → ¬ M.Has b → ¬ M'.Has b) (he : ∀ b o, H b = some o → xo o = true → ¬ M.Has b → H' b = some o) (hd : ∀ v d, RD M H v d → RD M' H' v d) : ∀ {o : OI}, ROI M H v o → ROI M' H' v o
  | .ins C fs, ⟨a, dx, gs, e, n, q, r⟩ => ⟨a, dx, gs, e, hn _ _ q n, he _ _ q rfl n, r.to hd⟩
  | .exc _ C fs, ⟨a, d, gs, e, r⟩ => ⟨a, d, gs, e, r.to hn (fun b o q x n => he b o q (xo_of x) n) hd⟩
def RC (M : Mm) (H : Hp) (v : V) : Sum Nat D → Prop
  | .inl n => ∃ b, v = .ref b ∧ (M.m[n]? = some (some b) ∨ M.m[n]? = some none)
  | .inr d => RD M H v d
def refsF : List (Str × Sum Nat D) → List Nat
  | [] => []
  | (_, .inl n) :: r => n :: refsF r
  | (_, .inr _) :: r => refsF r
def RFw (M : Mm) (H : Hp) (gs : List (Str × V)) (fs : List (Str × Sum Nat D)) : Prop := Paired (fun (p : Str × V) (q : Str × Sum Nat D) => p.1 = q.1 ∧ RC M H p.2 q.2) gs fs
theorem RFw.to {M M' : Mm} {H H' : Hp} : ∀ {gs : List (Str × V)} {fs : List (Str × Sum Nat D)}, RFw M H gs fs → (∀ n ∈ refsF fs, ∀ z, M.m[n]? = some z → M'.m[n]? = some z ∨ M'.m[n]? = some none) → (∀ v d, RD M H v d → RD M' H' v d) → RFw M' H' gs fs
  | _, _, .nil, _, _ => .nil
  | _ :: _, (_, .inl n) :: _, .cons ⟨e, b, ev, r⟩ t, k, hd => .cons ⟨e, b, ev, by
      rcases r with r | r
      · exact k n List.mem_cons_self _ r
      · rcases k n List.mem_cons_self _ r with q | q <;> exact .inr q⟩ (RFw.to t (fun n m => k n (List.mem_cons_of_mem _ m)) hd)
  | _ :: _, (_, .inr d) :: _, .cons ⟨e, r⟩ t, k, hd => .cons ⟨e, hd _ _ r⟩ (RFw.to t k hd)
theorem RFw.lt {M : Mm} {H : Hp} : ∀ {gs : List (Str × V)} {fs : List (Str × Sum Nat D)}, RFw M H gs fs → ∀ n ∈ refsF fs, n < M.m.length
  | _, _, .nil, n, m => by cases m
  | _ :: _, (_, .inl k) :: _, .cons ⟨e, b, ev, r⟩ t, n, m => by
      rcases List.mem_cons.mp m with z | z
      · subst z
        rcases r with r | r <;> exact (List.getElem?_eq_some_iff.mp r).1
      · exact RFw.lt t n z
  | _ :: _, (_, .inr d) :: _, .cons ⟨e, r⟩ t, n, m => RFw.lt t n m
abbrev ROs (M : Mm) (H : Hp) (xs : List V) (os : List OI) : Prop := Paired (fun v o => ROI M H v o) xs os
theorem ROs.to {M M' : Mm} {H H' : Hp} {xs : List V} {os : List OI} (r : ROs M H xs os) (hn : ∀ b o, H b = some o → ¬ M.Has b → ¬ M'.Has b) (he : ∀ b o, H b = some o → xo o = true → ¬ M.Has b → H' b = some o) (hd : ∀ v d, RD M H v d → RD M' H' v d) : ROs M' H' xs os := Paired.mapP r fun v o z => z.to hn he hd
inductive MO where
  | lst (ds : List D) | dic (es : List (D × D)) | dit (es : List (D × D)) | tab (q : Str) (P : Addr) | ins (C : Addr) (fs : List (Str × D)) | obj (C : Addr) (fs : List (Str × Sum Nat D)) | los (os : List OI)
abbrev Hh := List (Option MO)
@[simp] def MO.refs : MO → List Nat
  | .obj _ fs => refsF fs
  | _ => []
def RO (M : Mm) (H : Hp) (a : Addr) : MO → Prop
  | .lst ds => ∃ xs, H a = some (.lst xs) ∧ RDs M H xs ds
  | .dic es => ∃ kvs, H a = some (.dK kvs) ∧ RDk M H kvs es
  | .dit es => ∃ kvs, H a = some (dtO a kvs) ∧ RDt M H kvs es
  | .ins C fs => ∃ dx gs, H a = some (.ins C dx gs) ∧ RF M H gs fs
  | .obj C fs => ∃ dx gs, H a = some (.ins C dx gs) ∧ RFw M H gs fs
  | .los os => ∃ xs, H a = some (.lst xs) ∧ ROs M H xs os
  | .tab q P => a = P ∧ ∃ ps : Array Value, H a = some (.tbl ps) ∧ TriplesOk ps.toList ∧ ∀ pos cv, codeAmong pos ps.toList = some cv → ∃ c, cv = .ref c ∧ ¬ M.Has c ∧ H c = some (LamX.CodeO c q)
def tpO : HO → Bool
  | .tup _ => true
  | .frz _ (.tup _) => true
  | _ => false
structure Rep (M : Mm) (H : Hp) (h : Hh) : Prop where
  us : ∀ a ∈ M.u, some a ∉ M.m ∧ ∃ o, H a = some o ∧ tpO o = false
  len : M.m.length = h.length
  inj : ∀ (i j : Nat) (a : Addr), M.m[i]? = some (some a) → M.m[j]? = some (some a) → i = j
  at_ : ∀ (i : Nat) (a : Addr), M.m[i]? = some (some a) → ∃ o, h[i]? = some (some o) ∧ RO M H a o
  dead : ∀ i : Nat, M.m[i]? = some none → h[i]? = some none
theorem RO.move {M M' : Mm} {H H' : Hp} (x : Ext M M' H H') {a : Addr} {o : MO} (e : H' a = H a) (r : RO M H a o) : RO M' H' a o := by
  cases o with
  | lst ds => obtain ⟨xs, h, r⟩ := r; exact ⟨xs, e.trans h, r.mono x⟩
  | dic ds => obtain ⟨xs, h, r⟩ := r; exact ⟨xs, e.trans h, r.mono x⟩
  | dit ds => obtain ⟨xs, h, r⟩ := r; exact ⟨xs, e.trans h, r.mono x⟩
  | ins C fs => obtain ⟨dx, gs, h, r⟩ := r; exact ⟨dx, gs, e.trans h, r.to fun _ _ => RD.mono x⟩
  | obj C fs => obtain ⟨dx, gs, h, r⟩ := r; exact ⟨dx, gs, e.trans h, r.to (fun n _ z q => by rw [← q]; exact x.kill n (List.getElem?_eq_some_iff.mp q).1) fun _ _ => RD.mono x⟩
  | los os => obtain ⟨xs, h, r⟩ := r; exact ⟨xs, e.trans h, r.to (fun _ _ q n => x.out n q) (fun _ _ q _ n => x.st n q) fun _ _ => RD.mono x⟩
  | tab q P =>
    obtain ⟨z, ps, h, t, r⟩ := r
    refine ⟨z, ps, e.trans h, t, fun pos cv hc => ?_⟩
    obtain ⟨c, e1, n, e2⟩ := r pos cv hc
    exact ⟨c, e1, x.out n e2, x.st n e2⟩
theorem RO.some_ {M : Mm} {H : Hp} {a : Addr} {o : MO} (r : RO M H a o) : ∃ u, H a = some u := by
  cases o with
  | lst ds => obtain ⟨xs, h, r⟩ := r; exact ⟨_, h⟩
  | dic ds => obtain ⟨xs, h, r⟩ := r; exact ⟨_, h⟩
  | dit ds => obtain ⟨xs, h, r⟩ := r; exact ⟨_, h⟩
  | ins C fs => obtain ⟨dx, gs, h, r⟩ := r; exact ⟨_, h⟩
  | obj C fs => obtain ⟨dx, gs, h, r⟩ := r; exact ⟨_, h⟩
  | los os => obtain ⟨xs, h, r⟩ := r; exact ⟨_, h⟩
  | tab q P => obtain ⟨_, ps, h, _⟩ := r; exact ⟨_, h⟩
theorem RO.kind {M : Mm} {H : Hp} {a : Addr} {o : MO} (r : RO M H a o) : ∃ u, H a = some u ∧ tpO u = false := by
  cases o with
  | lst ds => obtain ⟨xs, h, r⟩ := r; exact ⟨_, h, rfl⟩
  | dic ds => obtain ⟨xs, h, r⟩ := r; exact ⟨_, h, rfl⟩
  | dit ds => obtain ⟨xs, h, r⟩ := r; exact ⟨_, h, rfl⟩
  | ins C fs => obtain ⟨dx, gs, h, r⟩ := r; exact ⟨_, h, rfl⟩
  | obj C fs => obtain ⟨dx, gs, h, r⟩ := r; exact ⟨_, h, rfl⟩
  | los os => obtain ⟨xs, h, r⟩ := r; exact ⟨_, h, rfl⟩
  | tab q P => obtain ⟨_, ps, h, _⟩ := r; exact ⟨_, h, rfl⟩
theorem Rep.tracked {M : Mm} {H : Hp} {h : Hh} (r : Rep M H h) {a : Addr} (m : M.Has a) : ∃ u, H a = some u ∧ tpO u = false := by
  rcases m with m | m
  · exact (r.us a m).2
  · obtain ⟨i, hi, e⟩ := List.getElem_of_mem m
    obtain ⟨o, _, ro⟩ := r.at_ i a (by rw [List.getElem?_eq_getElem hi, e])
    exact ro.kind
theorem Rep.new {M : Mm} {H : Hp} {h : Hh} (r : Rep M H h) {p : Addr} (n : H p = none) : ¬ M.Has p := fun m => by
  obtain ⟨u, e, _⟩ := r.tracked m
  rw [n] at e; cases e
theorem trk_upd {H : Hp} {p : Addr} {o : HO} : ∀ a u, H a = some u → ∃ u', upd H p o a = some u' := fun a u e => by
  by_cases h : a = p
  · subst h; exact ⟨o, upd_same⟩
  · exact ⟨u, by rw [upd_ne h]; exact e⟩
theorem ext_new {M : Mm} {H : Hp} {p : Addr} {o : HO} (n : H p = none) : ExtE M M H (upd H p o) :=
  ⟨rfl, trk_upd, fun a u e _ => by rw [upd_ne (ne_of_none e n)]; exact e, fun _ m => .inl m, Nat.le_refl _, fun _ _ => rfl⟩
theorem Rep.upd_new {M : Mm} {H : Hp} {h : Hh} (r : Rep M H h) {p : Addr} {o : HO} (n : H p = none) : Rep M (upd H p o) h :=
  ⟨fun a m => by
    obtain ⟨h1, u, e, ht⟩ := r.us a m
    exact ⟨h1, u, by rw [upd_ne (ne_of_none e n)]; exact e, ht⟩, r.len, r.inj, fun i a e => by
    obtain ⟨u, hu, ro⟩ := r.at_ i a e
    obtain ⟨z, hz⟩ := ro.some_
    exact ⟨u, hu, ro.move (ext_new n).ext (upd_ne (ne_of_none hz n))⟩, r.dead⟩
def Mm.more (M : Mm) (p : Addr) : Mm := ⟨M.u, M.m ++ [some p]⟩
theorem ext_add {M : Mm} {H : Hp} {p : Addr} {o : HO} (n : H p = none) : ExtE M (M.more p) H (upd H p o) :=
  ⟨rfl, trk_upd, fun a u e _ => by rw [upd_ne (ne_of_none e n)]; exact e, fun a m => by
    rcases List.mem_append.mp m with m | m
    · exact .inl m
    · right
      have : a = p := by simpa using m
      rw [this]; exact n, by simp [Mm.more], fun i hi => List.getElem?_append_left hi⟩
theorem Rep.add {M : Mm} {H : Hp} {h : Hh} (r : Rep M H h) {p : Addr} {o : HO} {m : MO} (n : H p = none) (ro : RO (M.more p) (upd H p o) p m) : Rep (M.more p) (upd H p o) (h ++ [some m]) := by
  have nm := r.new n
  have cases_ : ∀ (i : Nat) (z : Option Addr), (M.m ++ [some p])[i]? = some z → (i < M.m.length ∧ M.m[i]? = some z) ∨ (i = M.m.length ∧ z = some p) := fun i z e => by
    by_cases hi : i < M.m.length
    · rw [List.getElem?_append_left hi] at e
      exact .inl ⟨hi, e⟩
    · rw [List.getElem?_append_right (by omega)] at e
      by_cases h0 : i - M.m.length = 0
      · rw [h0] at e
        exact .inr ⟨by omega, by simpa using e.symm⟩
      · rw [List.getElem?_eq_none (by simp; omega)] at e
        cases e
  refine ⟨fun a m => ?_, by simp [Mm.more, r.len], fun i j a e1 e2 => ?_, fun i a e => ?_, fun i e => ?_⟩
  · obtain ⟨h1, u, e, ht⟩ := r.us a m
    refine ⟨fun z => ?_, u, by rw [upd_ne (ne_of_none e n)]; exact e, ht⟩
    rcases List.mem_append.mp z with z | z
    · exact h1 z
    · have : a = p := by simpa using z
      rw [this, n] at e; cases e
  · rcases cases_ i _ e1 with ⟨h1, e1⟩ | ⟨h1, e1⟩ <;> rcases cases_ j _ e2 with ⟨h2, e2⟩ | ⟨h2, e2⟩
    · exact r.inj i j a e1 e2
    · cases e2; exact absurd (Or.inr (List.mem_of_getElem? e1)) nm
    · cases e1; exact absurd (Or.inr (List.mem_of_getElem? e2)) nm
    · omega
  · rcases cases_ i _ e with ⟨h1, e1⟩ | ⟨h1, e1⟩
    · obtain ⟨u, hu, q⟩ := r.at_ i a e1
      obtain ⟨z, hz⟩ := q.some_
      exact ⟨u, by rw [List.getElem?_append_left (by rw [← r.len]; exact h1)]; exact hu, q.move (ext_add n).ext (upd_ne (ne_of_none hz n))⟩
    · cases e1
      subst h1
      exact ⟨m, by rw [r.len]; simp, ro⟩
  · rcases cases_ i _ e with ⟨h1, e1⟩ | ⟨h1, e1⟩
    · rw [List.getElem?_append_left (by rw [← r.len]; exact h1)]
      exact r.dead i e1
    · cases e1
theorem ext_set {M : Mm} {H : Hp} {n : Nat} {a : Addr} {o : HO} (e : M.m[n]? = some (some a)) : ExtE M M H (upd H a o) :=
  ⟨rfl, trk_upd, fun b u q nb => by rw [upd_ne (fun z => nb (by rw [z]; exact List.mem_of_getElem? e))]; exact q, fun _ m => .inl m, Nat.le_refl _, fun _ _ => rfl⟩
theorem Rep.set {M : Mm} {H : Hp} {h : Hh} (r : Rep M H h) {n : Nat} {a : Addr} {o : HO} {m : MO} (e : M.m[n]? = some (some a)) (ro : RO M (upd H a o) a m) : Rep M (upd H a o) (h.set n (some m)) := by
  have hn : n < h.length := by
    obtain ⟨u, hu, _⟩ := r.at_ n a e
    exact (List.getElem?_eq_some_iff.mp hu).1
  refine ⟨fun b mb => ?_, by simpa using r.len, r.inj, fun i b q => ?_, fun i q => ?_⟩
  · obtain ⟨h1, u, q, ht⟩ := r.us b mb
    exact ⟨h1, u, by rw [upd_ne (fun z => h1 (by rw [z]; exact List.mem_of_getElem? e))]; exact q, ht⟩
  · by_cases hi : i = n
    · subst hi
      rw [e] at q; cases q
      exact ⟨m, by rw [List.getElem?_set_self hn], ro⟩
    · obtain ⟨u, hu, q2⟩ := r.at_ i b q
      have hb : b ≠ a := fun z => hi (r.inj i n a (by rw [← z]; exact q) e)
      exact ⟨u, by rw [List.getElem?_set_ne (Ne.symm hi)]; exact hu, q2.move (ext_set e).ext (upd_ne hb)⟩
  · have hi : n ≠ i := fun z => by subst z; rw [e] at q; cases q
    rw [List.getElem?_set_ne hi]
    exact r.dead i q
def RWs (M : Mm) (H : Hp) (v : V) (os : List OI) : Prop := ∃ a xs, v = .ref a ∧ ¬ M.Has a ∧ H a = some (.lst xs) ∧ Paired (fun v o => ROI M H v o) xs os
theorem RWs.to {M M' : Mm} {H H' : Hp} {v : V} {os : List OI} (r : RWs M H v os) (hn : ∀ b o, H b = some o → ¬ M.Has b → ¬ M'.Has b) (he : ∀ b o, H b = some o → xo o = true → ¬ M.Has b → H' b = some o) (hd : ∀ v d, RD M H v d → RD M' H' v d) : RWs M' H' v os := by
  obtain ⟨a, xs, e, n, q, p⟩ := r
  exact ⟨a, xs, e, hn _ _ q n, he _ _ q rfl n, Paired.mapP p fun v o z => z.to hn he hd⟩
inductive W where
  | dat (d : D) | ref (n : Nat) | scr (ns : List Int) | pack (its : List (Sum Nat D)) | lock (es : List (D × D)) | ins (C : Addr) (fs : List (Str × D)) | exc (k : Nat) (C : Addr) (fs : List (Str × D)) | objs (os : List OI) | tpk (its : List (Sum Nat D))
inductive RPs (M : Mm) (H : Hp) : List V → List (Sum Nat D) → Prop
  | nil : RPs M H [] []
  | ref {n : Nat} {a : Addr} {vs : List V} {ds : List (Sum Nat D)} : M.m[n]? = some (some a) → RPs M H vs ds → RPs M H (.ref a :: vs) (.inl n :: ds)
  | dat {v : V} {d : D} {vs : List V} {ds : List (Sum Nat D)} : RD M H v d → RPs M H vs ds → RPs M H (v :: vs) (.inr d :: ds)
theorem RPs.move {M M' : Mm} {H H' : Hp} (hm : ∀ (n : Nat) (a : Addr), M.m[n]? = some (some a) → M'.m[n]? = some (some a)) (hd : ∀ v d, RD M H v d → RD M' H' v d) : ∀ {vs : List V} {ds : List (Sum Nat D)}, RPs M H vs ds → RPs M' H' vs ds
  | _, _, .nil => .nil
  | _, _, .ref e r => .ref (hm _ _ e) (r.move hm hd)
  | _, _, .dat e r => .dat (hd _ _ e) (r.move hm hd)
theorem RPs.moveI {M M' : Mm} {H H' : Hp} (hd : ∀ v d, RD M H v d → RD M' H' v d) : ∀ {vs : List V} {ds : List (Sum Nat D)}, RPs M H vs ds → (∀ (n : Nat), Sum.inl n ∈ ds → ∀ a : Addr, M.m[n]? = some (some a) → M'.m[n]? = some (some a)) → RPs M' H' vs ds
  | _, _, .nil, _ => .nil
  | _, _, .ref e r, hm => .ref (hm _ List.mem_cons_self _ e) (r.moveI hd fun n hn a ea => hm n (List.mem_cons_of_mem _ hn) a ea)
  | _, _, .dat e r, hm => .dat (hd _ _ e) (r.moveI hd fun n hn a ea => hm n (List.mem_cons_of_mem _ hn) a ea)
abbrev Env := List (Option W)
def RV (M : Mm) (H : Hp) (v : V) : W → Prop
  | .dat d => RD M H v d
  | .ref n => ∃ a, M.m[n]? = some (some a) ∧ v = .ref a
  | .scr ns => ∃ a o, v = .ref a ∧ ¬ M.Has a ∧ H a = some (.frz o (.lst (ns.map V.int)))
  | .pack its => ∃ a xs, v = .ref a ∧ ¬ M.Has a ∧ H a = some (.lst xs) ∧ RPs M H xs its
  | .lock es => ∃ a o kvs, v = .ref a ∧ ¬ M.Has a ∧ H a = some (.frz o (.dK kvs)) ∧ RDk M H kvs es
  | .ins C fs => ∃ a dx gs, v = .ref a ∧ ¬ M.Has a ∧ H a = some (.ins C dx gs) ∧ RF M H gs fs
  | .exc _ C fs => ∃ a d gs, v = .ref a ∧ RX M H a C d gs fs
  | .objs os => RWs M H v os
  | .tpk its => ∃ a xs, v = .ref a ∧ ¬ M.Has a ∧ H a = some (.tup xs) ∧ RPs M H xs its
theorem lt_of_get {α : Type} {l : List α} {i : Nat} {x : α} (e : l[i]? = some x) : i < l.length := (List.getElem?_eq_some_iff.mp e).1
theorem RV.mono {M M' : Mm} {H H' : Hp} (x : ExtE M M' H H') {v : V} : ∀ {w : W}, RV M H v w → RV M' H' v w
  | .dat _, r => RD.mono x.ext r
  | .ref n, ⟨a, e, r⟩ => ⟨a, by rw [x.pre n (lt_of_get e)]; exact e, r⟩
  | .scr ns, ⟨a, o, e, n, q⟩ => ⟨a, o, e, x.ext.out n q, x.ext.st n q⟩
  | .pack its, ⟨a, xs, e, n, q, r⟩ => ⟨a, xs, e, x.ext.out n q, x.ext.st n q, r.move (fun i b z => by rw [x.pre i (lt_of_get z)]; exact z) fun _ _ => RD.mono x.ext⟩
  | .lock es, ⟨a, o, kvs, e, n, q, r⟩ => ⟨a, o, kvs, e, x.ext.out n q, x.ext.st n q, r.mono x.ext⟩
  | .ins C fs, ⟨a, dx, gs, e, n, q, r⟩ => ⟨a, dx, gs, e, x.ext.out n q, x.ext.st n q, r.to fun _ _ => RD.mono x.ext⟩
  | .exc _ C fs, ⟨a, d, gs, e, r⟩ => ⟨a, d, gs, e, r.to (fun _ _ q n => x.ext.out n q) (fun _ _ q _ n => x.ext.st n q) fun _ _ => RD.mono x.ext⟩
  | .objs _, r => RWs.to r (fun _ _ q n => x.ext.out n q) (fun _ _ q _ n => x.ext.st n q) fun _ _ => RD.mono x.ext
  | .tpk its, ⟨a, xs, e, n, q, r⟩ => ⟨a, xs, e, x.ext.out n q, x.ext.st n q, r.move (fun i b z => by rw [x.pre i (lt_of_get z)]; exact z) fun _ _ => RD.mono x.ext⟩
inductive RVs (M : Mm) (H : Hp) : List V → List W → Prop
  | nil : RVs M H [] []
  | cons {v : V} {vs : List V} {d : W} {ds : List W} : RV M H v d → RVs M H vs ds → RVs M H (v :: vs) (d :: ds)
theorem RVs.mono {M M' : Mm} {H H' : Hp} (x : ExtE M M' H H') : ∀ {vs : List V} {ws : List W}, RVs M H vs ws → RVs M' H' vs ws
  | _, _, .nil => .nil
  | _, _, .cons a r => .cons (a.mono x) (r.mono x)
theorem RVs.length {M : Mm} {H : Hp} : ∀ {vs : List V} {ws : List W}, RVs M H vs ws → vs.length = ws.length
  | _, _, .nil => rfl
  | _, _, .cons _ r => by rw [List.length_cons, List.length_cons, r.length]
theorem RDs.length {M : Mm} {H : Hp} : ∀ {vs : List V} {ws : List D}, RDs M H vs ws → vs.length = ws.length
  | _, _, .nil => rfl
  | _, _, .cons _ r => by rw [List.length_cons, List.length_cons, r.length]
def RS (M : Mm) (H : Hp) (ρ : Env) (σ : L2.St) : Prop := ρ.length = σ.length ∧ ∀ (i : Nat) (w : W), ρ[i]? = some (some w) → ∃ v, σ[i]? = some (some v) ∧ RV M H v w
theorem RS.mono {M M' : Mm} {H H' : Hp} (x : ExtE M M' H H') {ρ : Env} {σ : L2.St} (r : RS M H ρ σ) : RS M' H' ρ σ := ⟨r.1, fun i w e => by
  obtain ⟨v, e1, q⟩ := r.2 i w e
  exact ⟨v, e1, q.mono x⟩⟩
theorem RS.set {M : Mm} {H : Hp} {ρ : Env} {σ : L2.St} (r : RS M H ρ σ) {i : Nat} {v : V} {w : W} (q : RV M H v w) : RS M H (ρ.set i (some w)) (σ.set i (some v)) := by
  refine ⟨by simp [r.1], fun j u e => ?_⟩
  by_cases hj : i = j
  · subst hj
    by_cases hi : i < ρ.length
    · rw [List.getElem?_set_self hi] at e
      cases e
      exact ⟨v, by rw [List.getElem?_set_self (by rw [← r.1]; exact hi)], q⟩
    · rw [List.getElem?_eq_none (by simpa using hi)] at e; cases e
  · rw [List.getElem?_set_ne hj] at e ⊢
    exact r.2 j u e
def obnd {α β : Type} (r : Option (α × Hh)) (k : α → Hh → Option (β × Hh)) : Option (β × Hh) := match r with
  | some (a, h) => k a h
  | none => none
@[simp] theorem obnd_some {α β : Type} (a : α) (h : Hh) (k : α → Hh → Option (β × Hh)) : obnd (some (a, h)) k = k a h := rfl
@[simp] theorem obnd_none {α β : Type} (k : α → Hh → Option (β × Hh)) : obnd none k = none := rfl
def Cont {α β : Type} (rel : Mm → Hp → β → α → Prop) (r : Option (α × Hh)) (M : Mm) (H : Hp) (Q : β → Hp → Prop) : Prop :=
  ∃ w h', r = some (w, h') ∧ ∀ M' H' v, ExtE M M' H H' → Rep M' H' h' → rel M' H' v w → Q v H'
theorem Cont.bind {α β γ δ : Type} {rel : Mm → Hp → β → α → Prop} {r : Option (γ × Hh)} {k : γ → Hh → Option (α × Hh)} {M : Mm} {H : Hp} {Q : β → Hp → Prop} (c : Cont rel (obnd r k) M H Q) :
    ∃ a h1, r = some (a, h1) ∧ ∀ M1 H1, ExtE M M1 H H1 → Cont rel (k a h1) M1 H1 Q := by
  obtain ⟨w, h', e, q⟩ := c
  cases r with
  | none => cases e
  | some p =>
    obtain ⟨a, h1⟩ := p
    exact ⟨a, h1, rfl, fun M1 H1 x => ⟨w, h', e, fun M' H' v y => q M' H' v (x.trans y)⟩⟩
theorem Cont.fin {α β : Type} {rel : Mm → Hp → β → α → Prop} {w : α} {h : Hh} {M : Mm} {H : Hp} {Q : β → Hp → Prop} (c : Cont rel (some (w, h)) M H Q) {M' : Mm} {H' : Hp} {v : β} (x : ExtE M M' H H') (r : Rep M' H' h) (q : rel M' H' v w) : Q v H' := by
  obtain ⟨w', h', e, k⟩ := c
  cases e
  exact k M' H' v x r q
def tX {α β : Type} (rel : Mm → Hp → β → α → Prop) (f : Env → Hh → Option (α × Hh)) : L2.St → Hp → (β → Hp → Prop) → Prop := fun σ H Q => ∃ M h ρ, Rep M H h ∧ RS M H ρ σ ∧ Cont rel (f ρ h) M H Q
abbrev EM := Env → Hh → Option (W × Hh)
abbrev tE : EM → TE := tX RV
abbrev BM := Env → Hh → Option (Bool × Hh)
abbrev tT : BM → TT := tX fun _ _ (b : Bool) (c : Bool) => b = c
abbrev AM := Env → Hh → Option (List W × Hh)
abbrev tA : AM → TA := tX RVs
abbrev OM := Env → Hh → Option (Option Int × Hh)
abbrev tO : OM → TO := tX fun _ _ (b : Option Int) (c : Option Int) => b = c
abbrev DE (X : Cx) (e : Expr) (f : EM) : Prop := PE X e (tE f)
abbrev DT (X : Cx) (e : Expr) (f : BM) : Prop := PT X e (tT f)
abbrev DA (X : Cx) (es : List Expr) (f : AM) : Prop := PA X es (tA f)
abbrev DK (X : Cx) (es : List Keyword) (f : AM) : Prop := PK X es (tA f)
theorem _root_.L2.PE.weak {X : Cx} {e : Expr} {t t' : TE} (h : PE X e t) (i : ∀ σ H Q, t' σ H Q → t σ H Q) : PE X e t' := ⟨fun pins s σ H Q I q => h.run pins s σ H Q I (i σ H Q q)⟩
theorem _root_.L2.PT.weak {X : Cx} {e : Expr} {t t' : TT} (h : PT X e t) (i : ∀ σ H Q, t' σ H Q → t σ H Q) : PT X e t' := ⟨fun pins s σ H Q I q => h.run pins s σ H Q I (i σ H Q q)⟩
theorem _root_.L2.PA.weak {X : Cx} {e : List Expr} {t t' : TA} (h : PA X e t) (i : ∀ σ H Q, t' σ H Q → t σ H Q) : PA X e t' := ⟨fun pos pins s σ H Q I q => h.run pos pins s σ H Q I (i σ H Q q)⟩
theorem _root_.L2.PK.weak {X : Cx} {e : List Keyword} {t t' : TA} (h : PK X e t) (i : ∀ σ H Q, t' σ H Q → t σ H Q) : PK X e t' := ⟨fun pos pins s σ H Q I q => h.run pos pins s σ H Q I (i σ H Q q)⟩
theorem _root_.L2.PS.weak {X : Cx} {e : Stmt} {t t' : TS} (h : PS X e t) (i : ∀ D σ H, t' D σ H → t D σ H) : PS X e t' := ⟨fun pins s σ H Q I q => h.run pins s σ H Q I (i Q σ H q)⟩
theorem _root_.L2.PSs.weak {X : Cx} {e : List Stmt} {t t' : TS} (h : PSs X e t) (i : ∀ D σ H, t' D σ H → t D σ H) : PSs X e t' := ⟨fun pins s σ H Q I q => h.run pins s σ H Q I (i Q σ H q)⟩
theorem _root_.L2.PG.weak {X : Cx} {e : Expr} {t t' : TG} (h : PG X e t) (i : ∀ v σ H Q, t' v σ H Q → t v σ H Q) : PG X e t' := ⟨fun pins s σ H v u Q I r q => h.run pins s σ H v u Q I r (i v σ H Q q)⟩
theorem _root_.L2.PI.weak {X : Cx} {tg e : Expr} {t t' : TI} (h : PI X tg e t) (i : ∀ σ H Q, t' σ H Q → t σ H Q) : PI X tg e t' := ⟨fun pins s σ H R I q => h.run pins s σ H R I (i σ H R q)⟩
section
variable {X : Cx}
def fVar (i : Nat) : EM := fun ρ h => match ρ[i]? with
  | some (some w) => some (w, h)
  | _ => none
theorem dv (i : Nat) {x : Str} {pos : Pos} (h : PE X (.Name x pos) (tVar i)) : DE X (.Name x pos) (fVar i) := h.weak fun σ H Q => by
  rintro ⟨M, h, ρ, r, rs, c⟩
  unfold fVar at c
  split at c
  · rename_i w e
    obtain ⟨v, e1, rv⟩ := rs.2 i w e
    exact ⟨v, e1, c.fin (.refl _ _) r rv⟩
  · obtain ⟨_, _, e, _⟩ := c; cases e
def fC (d : D) : EM := fun _ h => some (.dat d, h)
theorem d_const {e : Expr} {v : V} {d : D} (h : PE X e (tC v)) (q : ∀ M H, RD M H v d) : DE X e (fC d) := h.weak fun σ H Q => by
  rintro ⟨M, h, ρ, r, rs, c⟩
  exact c.fin (.refl _ _) r (q M H)
theorem d_int {i j pos} : DE X (.Constant (.int i) j pos) (fC (.int i)) := d_const pe_int fun _ _ => .int i
theorem d_bl {i j pos} : DE X (.Constant (.bool i) j pos) (fC (.bool i)) := d_const pe_bl fun _ _ => .bl i
theorem d_non {j pos} : DE X (.Constant .none j pos) (fC .none) := d_const pe_non fun _ _ => .non
theorem d_str {i j pos} : DE X (.Constant (.str i) j pos) (fC (.str i)) := d_const pe_str fun _ _ => .str i
def fNil : AM := fun _ h => some ([], h)
def fCons (f : EM) (g : AM) : AM := fun ρ h => obnd (f ρ h) fun w h1 => obnd (g ρ h1) fun ws h2 => some (w :: ws, h2)
theorem da_nil : DA X [] fNil := pa_nil.weak fun σ H Q => by
  rintro ⟨M, h, ρ, r, rs, c⟩
  exact c.fin (.refl _ _) r .nil
theorem cons_imp {f : EM} {g : AM} : ∀ σ H Q, tA (fCons f g) σ H Q → tCons (tE f) (tA g) σ H Q := fun σ H Q => by
  rintro ⟨M, h, ρ, r, rs, c⟩
  obtain ⟨w, h1, e1, c1⟩ := Cont.bind (δ := Unit) c
  refine ⟨M, h, ρ, r, rs, w, h1, e1, fun M1 H1 v x1 r1 v1 => ⟨M1, h1, ρ, r1, rs.mono x1, ?_⟩⟩
  obtain ⟨ws, h2, e2, c2⟩ := Cont.bind (δ := Unit) (c1 M1 H1 x1)
  exact ⟨ws, h2, e2, fun M2 H2 vs x2 r2 v2 => (c2 M2 H2 x2).fin (.refl _ _) r2 (.cons (v1.mono x2) v2)⟩
theorem da_cons {e : Expr} {es : List Expr} {f : EM} {g : AM} (he : DE X e f) (hr : DA X es g) (hs : starEach (e :: es) X.env = (false, eval e X.env) :: starEach es X.env := by rfl) : DA X (e :: es) (fCons f g) :=
  (pa_cons he hr hs).weak cons_imp
theorem dk_nil : DK X [] fNil := pk_nil.weak fun σ H Q => by
  rintro ⟨M, h, ρ, r, rs, c⟩
  exact c.fin (.refl _ _) r .nil
theorem dk_cons {nm : Option Str} {kpos : Pos} {e : Expr} {es : List Keyword} {f : EM} {g : AM} (he : DE X e f) (hr : DK X es g) : DK X (⟨nm, e, kpos⟩ :: es) (fCons f g) :=
  (pk_cons he hr).weak cons_imp
def Sem2 (r : R2) (sem : W → W → Hh → Option (W × Hh)) : Prop := ∀ (M : Mm) (H : Hp) (h : Hh) (x y : V) (wx wy : W) (Q : VK), Rep M H h → RV M H x wx → RV M H y wy → Cont RV (sem wx wy h) M H Q → r x y H Q
def f2 (sem : W → W → Hh → Option (W × Hh)) (f g : EM) : EM := fun ρ h => obnd (f ρ h) fun a h1 => obnd (g ρ h1) fun b h2 => sem a b h2
theorem op_imp {r : R2} {sem : W → W → Hh → Option (W × Hh)} {f g : EM} (hs : Sem2 r sem) : ∀ σ H Q, tE (f2 sem f g) σ H Q → tOp r (tE f) (tE g) σ H Q := fun σ H Q => by
  rintro ⟨M, h, ρ, r, rs, c⟩
  obtain ⟨w, h1, e1, c1⟩ := Cont.bind (δ := Unit) c
  refine ⟨M, h, ρ, r, rs, w, h1, e1, fun M1 H1 v x1 r1 v1 => ⟨M1, h1, ρ, r1, rs.mono x1, ?_⟩⟩
  obtain ⟨w2, h2, e2, c2⟩ := Cont.bind (δ := Unit) (c1 M1 H1 x1)
  exact ⟨w2, h2, e2, fun M2 H2 v2 x2 r2 q2 => hs M2 H2 h2 _ _ w w2 Q r2 (v1.mono x2) q2 (c2 M2 H2 x2)⟩
theorem d_op {a b : Expr} {op : Operator} {pos : Pos} {r : R2} {sem : W → W → Hh → Option (W × Hh)} {f g : EM} (ho : OpR X (binaryOp op) r) (hs : Sem2 r sem) (ha : DE X a f) (hb : DE X b g) : DE X (.BinOp a op b pos) (f2 sem f g) :=
  (pe_op ho ha hb).weak (op_imp hs)
theorem d_cmp {a b : Expr} {op : CmpOp} {pos : Pos} {r : R2} {sem : W → W → Hh → Option (W × Hh)} {f g : EM} (ho : OpR X (compareOp op) r) (hs : Sem2 r sem) (ha : DE X a f) (hb : DE X b g) (hm : behindInMarks op b = false) : DE X (.Compare a [op] [b] pos) (f2 sem f g) :=
  (pe_cmpR ho ha hb hm).weak (op_imp hs)
end
end DL
set_option maxRecDepth 100000
set_option maxHeartbeats 4000000
namespace DL
open PySem PySem.Spec PyProof.Rows L2
variable [HW]
def deref (h : Hh) : W → Option D
  | .dat d => some d
  | .ref n => match h[n]? with
    | some (some (.lst ds)) => some (.list ds)
    | some (some (.dic es)) => some (.dict es)
    | some (some (.dit es)) => some (.dict ((.none, .none) :: es))
    | _ => none
  | .scr _ => none
  | .pack _ => none
  | .lock _ => none
  | .ins _ _ => none
  | .exc _ _ _ => none
  | .objs _ => none
  | .tpk _ => none
@[simp] theorem deref_dat (h : Hh) (d : D) : deref h (.dat d) = some d := rfl
def RR (M : Mm) (H : Hp) (v : V) : D → Prop
  | .list ds => ∃ a xs, v = .ref a ∧ H a = some (.lst xs) ∧ RDs M H xs ds
  | .dict es => (∃ a kvs, v = .ref a ∧ H a = some (.dK kvs) ∧ RDk M H kvs es) ∨ ∃ a kvs es', es = (.none, .none) :: es' ∧ v = .ref a ∧ Rd H a (dtO a kvs) ∧ RDt M H kvs es'
  | d => RD M H v d
theorem RD.rr {M : Mm} {H : Hp} {v : V} : ∀ {d : D}, RD M H v d → RR M H v d
  | .none, r => r
  | .bool _, r => r
  | .int _, r => r
  | .str _, r => r
  | .tuple _, r => r
  | .list _, .lst _ e r => ⟨_, _, rfl, e, r⟩
  | .dict _, .dic _ e r => .inl ⟨_, _, rfl, e, r⟩
  | .dict _, .dit _ e r => .inr ⟨_, _, _, rfl, rfl, .inr ⟨_, e⟩, r⟩
theorem deref_rr {M : Mm} {H : Hp} {h : Hh} {v : V} {w : W} {d : D} (rep : Rep M H h) (r : RV M H v w) (e : deref h w = some d) : RR M H v d := by
  cases w with
  | dat d' => cases e; exact r.rr
  | scr ns => cases e
  | pack its => cases e
  | lock its => cases e
  | ins C fs => cases e
  | exc k C fs => cases e
  | objs os => cases e
  | tpk its => cases e
  | ref n =>
    obtain ⟨a, ea, rfl⟩ := r
    obtain ⟨o, ho, ro⟩ := rep.at_ n a ea
    simp only [deref, ho] at e
    cases o with
    | lst ds => cases e; obtain ⟨xs, h1, h2⟩ := ro; exact ⟨a, xs, rfl, h1, h2⟩
    | dic ds => cases e; obtain ⟨xs, h1, h2⟩ := ro; exact .inl ⟨a, xs, rfl, h1, h2⟩
    | dit ds => cases e; obtain ⟨xs, h1, h2⟩ := ro; exact .inr ⟨a, xs, _, rfl, rfl, .inl h1, h2⟩
    | tab q P => cases e
    | ins C fs => cases e
    | obj C fs => cases e
    | los os => cases e
section
variable {M : Mm} {H : Hp} {h : Hh} {v : V}
theorem rr_int {i : Int} (r : RR M H v (.int i)) : v = .int i := by cases (show RD M H v _ from r); rfl
theorem rr_str {i : Str} (r : RR M H v (.str i)) : v = .str i := by cases (show RD M H v _ from r); rfl
theorem rr_bl {i : Bool} (r : RR M H v (.bool i)) : v = .bl i := by cases (show RD M H v _ from r); rfl
theorem rr_non (r : RR M H v .none) : v = .non := by cases (show RD M H v _ from r); rfl
theorem rr_tup {ds : List D} (r : RR M H v (.tuple ds)) : ∃ a xs, v = .ref a ∧ ¬ M.Has a ∧ TupAt H a xs ds ∧ RDs M H xs ds := by
  cases (show RD M H v _ from r) with
  | tup n e q => exact ⟨_, _, rfl, n, e, q⟩
theorem RDs.get : ∀ {xs : List V} {ds : List D} {i : Nat} {d : D}, RDs M H xs ds → ds[i]? = some d → ∃ v, xs[i]? = some v ∧ RD M H v d
  | _, _, _, _, .nil, e => by simp at e
  | _, _, 0, _, .cons r _, e => by simp at e; subst e; exact ⟨_, rfl, r⟩
  | _, _, i + 1, _, .cons _ t, e => by
    obtain ⟨u, h1, h2⟩ := RDs.get (i := i) t (by simpa using e)
    exact ⟨u, by simpa using h1, h2⟩
theorem RDs.app : ∀ {xs : List V} {ds : List D} {ys : List V} {es : List D}, RDs M H xs ds → RDs M H ys es → RDs M H (xs ++ ys) (ds ++ es)
  | _, _, _, _, .nil, q => q
  | _, _, _, _, .cons r t, q => .cons r (RDs.app t q)
theorem RDs.take : ∀ {xs : List V} {ds : List D} (n : Nat), RDs M H xs ds → RDs M H (xs.take n) (ds.take n)
  | _, _, 0, _ => .nil
  | _, _, _ + 1, .nil => .nil
  | _, _, n + 1, .cons r t => .cons r (RDs.take n t)
theorem RDs.drop : ∀ {xs : List V} {ds : List D} (n : Nat), RDs M H xs ds → RDs M H (xs.drop n) (ds.drop n)
  | _, _, 0, r => r
  | _, _, _ + 1, .nil => .nil
  | _, _, n + 1, .cons _ t => RDs.drop n t
theorem RDs.rev : ∀ {xs : List V} {ds : List D}, RDs M H xs ds → RDs M H xs.reverse ds.reverse
  | _, _, .nil => .nil
  | _, _, .cons r t => by rw [List.reverse_cons, List.reverse_cons]; exact RDs.app (RDs.rev t) (.cons r .nil)
theorem RDs.set : ∀ {xs : List V} {ds : List D} (n : Nat) {v : V} {d : D}, RDs M H xs ds → RD M H v d → RDs M H (xs.set n v) (ds.set n d)
  | _, _, _, _, _, .nil, _ => .nil
  | _, _, 0, _, _, .cons r t, q => .cons q t
  | _, _, n + 1, _, _, .cons r t, q => .cons r (RDs.set n t q)
theorem RDs.erase : ∀ {xs : List V} {ds : List D} (n : Nat), RDs M H xs ds → RDs M H (xs.eraseIdx n) (ds.eraseIdx n)
  | _, _, _, .nil => .nil
  | _, _, 0, .cons r t => t
  | _, _, n + 1, .cons r t => .cons r (RDs.erase n t)
theorem RDs.rep {xs : List V} {ds : List D} (r : RDs M H xs ds) : ∀ k : Nat, RDs M H (List.replicate k xs).flatten (List.replicate k ds).flatten
  | 0 => .nil
  | k + 1 => by rw [List.replicate_succ, List.replicate_succ, List.flatten_cons, List.flatten_cons]; exact RDs.app r (RDs.rep r k)
theorem RDs.atI {xs : List V} {ds : List D} {i : Int} {d : D} (r : RDs M H xs ds) (e : L2.atI ds i = some d) : ∃ v, L2.atI xs i = some v ∧ RD M H v d := by
  unfold L2.atI at e ⊢
  rw [r.length]
  cases q : ixN ds.length i with
  | none => rw [q] at e; cases e
  | some j => rw [q] at e; exact r.get e
end
def mkL (m : Bool) (ds : List D) (h : Hh) : Option (W × Hh) := if m = true then some (.ref h.length, h ++ [some (.lst ds)]) else some (.dat (.list ds), h)
@[simp] theorem mkL_false (ds : List D) (h : Hh) : mkL false ds h = some (.dat (.list ds), h) := rfl
@[simp] theorem mkL_true (ds : List D) (h : Hh) : mkL true ds h = some (.ref h.length, h ++ [some (.lst ds)]) := rfl
theorem mkL_fin {m : Bool} {ds : List D} {h : Hh} {M : Mm} {H : Hp} {Q : VK} {p : Addr} {xs : List V} (rep : Rep M H h) (n : H p = none) (r : RDs M H xs ds) (c : Cont RV (mkL m ds h) M H Q) : Q (.ref p) (upd H p (.lst xs)) := by
  cases m with
  | false => exact c.fin (ext_new n) (rep.upd_new n) (RD.lst (rep.new n) upd_same (r.mono (ext_new n).ext))
  | true => exact c.fin (ext_add n) (rep.add n ⟨xs, upd_same, r.mono (ext_add n).ext⟩) ⟨p, by simp [Mm.more, ← rep.len], rfl⟩
theorem mkT_fin {ds : List D} {h : Hh} {M : Mm} {H : Hp} {Q : VK} {p : Addr} {xs : List V} (rep : Rep M H h) (n : H p = none) (r : RDs M H xs ds) (hd : callD ds = false) (c : Cont RV (some (.dat (.tuple ds), h)) M H Q) : Q (.ref p) (upd H p (.tup xs)) :=
  c.fin (ext_new n) (rep.upd_new n) (RD.tup (rep.new n) (.inl ⟨hd, upd_same⟩) (r.mono (ext_new n).ext))
def bareO (b : Bool) (o : Obj) (xs : List V) : HO := if b = true then .frz o (.tup xs) else .tup xs
theorem mkB_fin {ds : List D} {h : Hh} {M : Mm} {H : Hp} {Q : VK} {p : Addr} {xs : List V} {o : Obj} (rep : Rep M H h) (n : H p = none) (r : RDs M H xs ds) (ho : o.dict = none) (c : Cont RV (some (.dat (.tuple ds), h)) M H Q) : Q (.ref p) (upd H p (bareO (callD ds) o xs)) := by
  cases hd : callD ds with
  | false => exact mkT_fin rep n r hd c
  | true => exact c.fin (ext_new n) (rep.upd_new n) (RD.tup (rep.new n) (.inr ⟨hd, o, ho, upd_same⟩) (r.mono (ext_new n).ext))
theorem bare_ok {P : Program} {w : World} {H : Hp} {h' : Heap} {a : Addr} {xs : List V} {o : Obj} (b : Bool) (e : h'.get? a = some o) (ok : ∀ G, ObjOk P w G h' a (.tup xs)) : ObjOk P w H h' a (bareO b o xs) := by
  cases b with
  | false => exact ok _
  | true => exact ⟨e, ok _⟩
theorem Cont.here {d : D} {h : Hh} {M : Mm} {H : Hp} {Q : VK} {v : V} (c : Cont RV (some (.dat d, h)) M H Q) (rep : Rep M H h) (r : RD M H v d) : Q v H := c.fin (.refl _ _) rep r
theorem Cont.no {α β : Type} {rel : Mm → Hp → β → α → Prop} {M : Mm} {H : Hp} {Q : β → Hp → Prop} (c : Cont rel none M H Q) : False := by obtain ⟨_, _, e, _⟩ := c; cases e
def ok (d : D) (h : Hh) : Option (W × Hh) := some (.dat d, h)
def addW (m : Bool) (x y : W) (h : Hh) : Option (W × Hh) := match deref h x, deref h y with
  | some (.int i), some (.int j) => ok (.int (i + j)) h
  | some (.str a), some (.str b) => if a.length + b.length ≤ sizeLine then ok (.str (a ++ b)) h else none
  | some (.tuple a), some (.tuple b) => if a.length + b.length ≤ sizeLine then ok (.tuple (a ++ b)) h else none
  | some (.list a), some (.list b) => if a.length + b.length ≤ sizeLine then mkL m (a ++ b) h else none
  | _, _ => none
section
variable {X : Cx}
def rCatB (K : PySem.W.Frag) : R2 := fun x y H Q => ∃ a b vs ws, x = .ref a ∧ y = .ref b ∧ SqT K H a vs ∧ SqT K H b ws ∧ vs.length + ws.length ≤ sizeLine ∧
  (vs = [] → Q (.ref b) H) ∧ (vs ≠ [] → ws = [] → Q (.ref a) H) ∧ (vs ≠ [] → ws ≠ [] → ∃ bb : Bool, ∀ p o, H p = none → o.dict = none → Q (.ref p) (upd H p (bareO bb o (vs ++ ws))))
theorem op_catB : OpR X (binaryOp .Add) (rCatB X.K) := by
  rintro pins s σ H x y v u Q I rx ry ⟨a, b, vs, ws, rfl, rfl, ha, hb, hz, f0, f1, f2⟩
  by_cases e : vs = [] ∨ ws = []
  · exact op_catA pins s σ H _ _ v u Q I rx ry ⟨a, b, vs, ws, rfl, rfl, ha, hb, hz, f0, f1, fun n1 n2 => (e.elim n1 n2).elim⟩
  · have n1 : vs ≠ [] := fun z => e (.inl z)
    have n2 : ws ≠ [] := fun z => e (.inr z)
    obtain ⟨bb, f⟩ := f2 n1 n2
    cases rx
    cases ry
    obtain ⟨l1, r1, p1, _⟩ := I.tuple ha
    obtain ⟨l2, r2, p2, _⟩ := I.tuple hb
    apply HT.cat_tup p1 p2 (fun z => n1 (r1.nil_iff.mp z)) (fun z => absurd (r2.nil_iff.mp z) n2)
    · intro _
      refine ⟨.ref s.heap.objs.size, _, I.laid (t' := s.toks) (o := bareO bb _ (vs ++ ws)) (fun _ _ q => Heap.get?_push_of_some _ q) (Nat.le_refl _) (bare_ok bb (Heap.get?_push_size _ rfl) fun G => ⟨?_, _, r1.append r2, IsTup.new _ _⟩), rfl, f _ _ (I.hok.fresh (Nat.le_refl _)) rfl⟩
      rw [List.length_append]
      exact hz
    · rw [← r1.length, ← r2.length]
      exact hz
theorem s_add (m : Bool) : Sem2 (fun x y H Q => rI0 (fun i j => .int (i + j)) x y H Q ∨ (∃ i j, x = .str i ∧ y = .str j ∧ i.length + j.length ≤ sizeLine ∧ Q (.str (i ++ j)) H) ∨ rCatB X.K x y H Q ∨ rCat x y H Q) (addW m) := by
  intro M H h x y wx wy Q rep rx ry c
  unfold addW at c
  split at c
  · rename_i i j h1 h2
    obtain rfl := rr_int (deref_rr rep rx h1)
    obtain rfl := rr_int (deref_rr rep ry h2)
    exact .inl ⟨i, j, rfl, rfl, c.here rep (.int _)⟩
  · rename_i i j h1 h2
    obtain rfl := rr_str (deref_rr rep rx h1)
    obtain rfl := rr_str (deref_rr rep ry h2)
    split at c
    · rename_i hz
      exact .inr (.inl ⟨i, j, rfl, rfl, hz, c.here rep (.str _)⟩)
    · exact c.no.elim
  · rename_i i j h1 h2
    obtain ⟨a, xs, rfl, na, ha, qa⟩ := rr_tup (deref_rr rep rx h1)
    obtain ⟨b, ys, rfl, nb, hb, qb⟩ := rr_tup (deref_rr rep ry h2)
    split at c
    · rename_i hz
      refine .inr (.inr (.inl ⟨a, b, xs, ys, rfl, rfl, .inl ha.rd, .inl hb.rd, by rw [qa.length, qb.length]; exact hz, fun e => ?_, fun _ e => ?_, fun _ _ => ⟨callD (i ++ j), fun p o np ho => ?_⟩⟩))
      · subst e; cases qa
        exact c.here rep (.tup nb hb qb)
      · subst e; cases qb; rw [List.append_nil] at c
        exact c.here rep (.tup na ha qa)
      · exact mkB_fin rep np (qa.app qb) ho c
    · exact c.no.elim
  · rename_i i j h1 h2
    obtain ⟨a, xs, rfl, ha, qa⟩ := deref_rr rep rx h1
    obtain ⟨b, ys, rfl, hb, qb⟩ := deref_rr rep ry h2
    split at c
    · rename_i hz
      exact .inr (.inr (.inr ⟨a, b, xs, ys, rfl, rfl, ha, hb, by rw [qa.length, qb.length]; exact hz, fun p np => mkL_fin rep np (qa.app qb) c⟩))
    · exact c.no.elim
  · exact c.no.elim
theorem d_add (m : Bool) {a b : Expr} {pos : Pos} {f g : EM} (ha : DE X a f) (hb : DE X b g) : DE X (.BinOp a .Add b pos) (f2 (addW m) f g) :=
  d_op (op_add.or (op_add_str.or (op_catB.or op_cat))) (s_add m) ha hb
def intW (C : Int → Int → Bool) (g : Int → Int → Int) (x y : W) (h : Hh) : Option (W × Hh) := match deref h x, deref h y with
  | some (.int i), some (.int j) => if C i j = true then ok (.int (g i j)) h else none
  | _, _ => none
theorem s_int {C : Int → Int → Prop} {Cb : Int → Int → Bool} {g : Int → Int → Int} (hc : ∀ i j, Cb i j = true → C i j) : Sem2 (rI C fun i j => .int (g i j)) (intW Cb g) := by
  intro M H h x y wx wy Q rep rx ry c
  unfold intW at c
  split at c
  · rename_i i j h1 h2
    obtain rfl := rr_int (deref_rr rep rx h1)
    obtain rfl := rr_int (deref_rr rep ry h2)
    split at c
    · rename_i hz
      exact ⟨i, j, rfl, rfl, hc i j hz, c.here rep (.int _)⟩
    · exact c.no.elim
  · exact c.no.elim
theorem op_subC : OpR X (binaryOp .Sub) (rI (fun _ _ => True) fun i j => .int (i - j)) := fun pins s σ H x y v u Q I rx ry ⟨i, j, e1, e2, _, q⟩ => op_sub pins s σ H x y v u Q I rx ry ⟨i, j, e1, e2, q⟩
def subW := intW (fun _ _ => true) fun i j => i - j
theorem d_sub {a b : Expr} {pos : Pos} {f g : EM} (ha : DE X a f) (hb : DE X b g) : DE X (.BinOp a .Sub b pos) (f2 subW f g) := d_op op_subC (s_int fun _ _ _ => trivial) ha hb
def modW := intW (fun _ j => decide (0 < j)) fun i j => i % j
theorem d_mod {a b : Expr} {pos : Pos} {f g : EM} (ha : DE X a f) (hb : DE X b g) : DE X (.BinOp a .Mod b pos) (f2 modW f g) := d_op op_mod (s_int fun _ _ h => of_decide_eq_true h) ha hb
def divW := intW (fun _ j => decide (0 < j ∧ j < 1073741824)) fun i j => i / j
theorem d_div {a b : Expr} {pos : Pos} {f g : EM} (ha : DE X a f) (hb : DE X b g) : DE X (.BinOp a .FloorDiv b pos) (f2 divW f g) := d_op op_fdiv (s_int fun _ _ h => by simpa [CDiv] using h) ha hb
def powW := intW (fun i j => decide (0 ≤ j ∧ j ≤ 1000000 ∧ i.natAbs < 18446744073709551616)) fun i j => i ^ j.toNat
theorem d_pow {a b : Expr} {pos : Pos} {f g : EM} (ha : DE X a f) (hb : DE X b g) : DE X (.BinOp a .Pow b pos) (f2 powW f g) := d_op op_pow (s_int fun _ _ h => by simpa [CPow] using h) ha hb
def mulW (m : Bool) (x y : W) (h : Hh) : Option (W × Hh) := match deref h x, deref h y with
  | some (.int i), some (.int j) => if ((-18446744073709551616 < i && i < 18446744073709551616) || (-18446744073709551616 < j && j < 18446744073709551616)) = true then ok (.int (i * j)) h else none
  | some (.list a), some (.int k) => if (0 ≤ k && k < 1000000 && a.length * k.toNat ≤ sizeLine) = true then mkL m (List.replicate k.toNat a).flatten h else none
  | _, _ => none
theorem s_mul (m : Bool) : Sem2 (fun x y H Q => rI CMul (fun i j => .int (i * j)) x y H Q ∨ rRep x y H Q) (mulW m) := by
  intro M H h x y wx wy Q rep rx ry c
  unfold mulW at c
  split at c
  · rename_i i j h1 h2
    obtain rfl := rr_int (deref_rr rep rx h1)
    obtain rfl := rr_int (deref_rr rep ry h2)
    split at c
    · rename_i hz
      refine .inl ⟨i, j, rfl, rfl, ?_, c.here rep (.int _)⟩
      simpa [CMul] using hz
    · exact c.no.elim
  · rename_i i j h1 h2
    obtain ⟨a, xs, rfl, ha, qa⟩ := deref_rr rep rx h1
    obtain rfl := rr_int (deref_rr rep ry h2)
    split at c
    · rename_i hz
      simp only [Bool.and_eq_true, decide_eq_true_eq] at hz
      refine .inr ⟨a, j, xs, rfl, rfl, ha, by omega, by omega, by rw [qa.length]; exact hz.2, fun p np => mkL_fin rep np (qa.rep _) c⟩
    · exact c.no.elim
  · exact c.no.elim
theorem d_mul (m : Bool) {a b : Expr} {pos : Pos} {f g : EM} (ha : DE X a f) (hb : DE X b g) : DE X (.BinOp a .Mult b pos) (f2 (mulW m) f g) := d_op (op_mul.or op_rep) (s_mul m) ha hb
def fNeg (f : EM) : EM := fun ρ h => obnd (f ρ h) fun w h1 => match w with
  | .dat (.int i) => ok (.int (-i)) h1
  | _ => none
theorem d_neg {a : Expr} {pos : Pos} {f : EM} (ha : DE X a f) : DE X (.UnaryOp .USub a pos) (fNeg f) := (pe_un un_neg ha).weak fun σ H Q => by
  rintro ⟨M, h, ρ, r, rs, c⟩
  obtain ⟨w, h1, e1, c1⟩ := Cont.bind (δ := Unit) c
  refine ⟨M, h, ρ, r, rs, w, h1, e1, fun M1 H1 v x1 r1 v1 => ?_⟩
  have c2 := c1 M1 H1 x1
  split at c2
  · cases v1; exact ⟨_, rfl, c2.here r1 (.int _)⟩
  · exact c2.no.elim
def bok (b : Bool) (h : Hh) : Option (W × Hh) := some (.dat (.bool b), h)
def ltW (g : Int → Int → Bool) (k : List Nat → List Nat → Bool) (x y : W) (h : Hh) : Option (W × Hh) := match deref h x, deref h y with
  | some (.int i), some (.int j) => bok (g i j) h
  | some (.str i), some (.str j) => bok (k i.cps.toList j.cps.toList) h
  | _, _ => none
theorem s_lt {g : Int → Int → Bool} {k : List Nat → List Nat → Bool} : Sem2 (fun x y H Q => rI0 (fun i j => .bl (g i j)) x y H Q ∨ ∃ i j, x = .str i ∧ y = .str j ∧ Q (.bl (k i.cps.toList j.cps.toList)) H) (ltW g k) := by
  intro M H h x y wx wy Q rep rx ry c
  unfold ltW at c
  split at c
  · rename_i i j h1 h2
    obtain rfl := rr_int (deref_rr rep rx h1)
    obtain rfl := rr_int (deref_rr rep ry h2)
    exact .inl ⟨i, j, rfl, rfl, c.here rep (.bl _)⟩
  · rename_i i j h1 h2
    obtain rfl := rr_str (deref_rr rep rx h1)
    obtain rfl := rr_str (deref_rr rep ry h2)
    exact .inr ⟨i, j, rfl, rfl, c.here rep (.bl _)⟩
  · exact c.no.elim
def lt_W := ltW (fun i j => decide (i < j)) fun i j => decide (i < j)
def gt_W := ltW (fun i j => decide (j < i)) fun i j => decide (j < i)
def le_W := ltW (fun i j => decide (i ≤ j)) fun i j => !decide (j < i)
def ge_W := ltW (fun i j => decide (j ≤ i)) fun i j => !decide (i < j)
theorem d_ge {a b : Expr} {pos : Pos} {f g : EM} (ha : DE X a f) (hb : DE X b g) : DE X (.Compare a [.GtE] [b] pos) (f2 ge_W f g) := d_cmp (op_ge.or op_ge_str) s_lt ha hb (nomark _)
end
mutual
theorem RD.dp {K : PySem.W.Frag} {M : Mm} {H : Hp} : ∀ {v : V} {d : D}, RD M H v d → d.canLay0 = true → Dp K H v d
  | _, _, .non, _ => .non
  | _, _, .bl b, _ => .bl b
  | _, _, .int i, _ => .int i
  | _, _, .str x, _ => .str x
  | _, _, .tup _ e r, h => .tup e.sq (RDs.dp r (by simpa [PyData.canLay0] using h))
  | _, _, .lst _ e r, h => .lst (.of e) (RDs.dp r (by simpa [PyData.canLay0] using h))
  | _, _, .dic _ _ _, h => by simp [PyData.canLay0] at h
  | _, _, .dit _ _ _, h => by simp [PyData.canLay0] at h
theorem RDs.dp {K : PySem.W.Frag} {M : Mm} {H : Hp} : ∀ {v : List V} {d : List D}, RDs M H v d → PyData.canLayAll0 d = true → DpAll K H v d
  | _, _, .nil, _ => .nil
  | _, _, .cons a r, h => by
    simp only [PyData.canLayAll0, Bool.and_eq_true] at h
    exact .cons (RD.dp a h.1) (RDs.dp r h.2)
end
theorem rr_dp {K : PySem.W.Frag} {M : Mm} {H : Hp} {v : V} : ∀ {d : D}, RR M H v d → d.canLay0 = true → Dp K H v d
  | .none, r, h => RD.dp r h
  | .bool _, r, h => RD.dp r h
  | .int _, r, h => RD.dp r h
  | .str _, r, h => RD.dp r h
  | .tuple _, r, h => RD.dp r h
  | .list _, ⟨_, _, e, h1, h2⟩, h => by subst e; exact .lst (.of h1) (h2.dp (by simpa [PyData.canLay0] using h))
  | .dict _, _, h => by simp [PyData.canLay0] at h
def eqS : D → D → Option Bool
  | .int i, .int j => some (decide (i = j))
  | .str i, .str j => some (decide (i = j))
  | .bool i, .bool j => some (decide (i = j))
  | .none, .none => some true
  | .none, .int _ => some false
  | .none, .str _ => some false
  | .none, .bool _ => some false
  | .int _, .none => some false
  | .str _, .none => some false
  | .bool _, .none => some false
  | .int _, .str _ => some false
  | .str _, .int _ => some false
  | .bool _, .str _ => some false
  | .str _, .bool _ => some false
  | _, _ => none
theorem eqS_ok {M : Mm} {H : Hp} {x y : V} {a b : D} {r : Bool} (ra : RR M H x a) (rb : RR M H y b) (e : eqS a b = some r) : scal x y = true ∧ r = decide (x = y) := by
  cases a <;> cases b <;> simp only [eqS, Option.some.injEq, reduceCtorEq] at e <;> subst e <;> cases (show RD M H x _ from ra) <;> cases (show RD M H y _ from rb) <;> simp [scal]
def shp (d : D) : Bool := d.canLay0 && decide (d.depth ≤ 64)
def eqW (neg : Bool) (x y : W) (h : Hh) : Option (W × Hh) := match deref h x, deref h y with
  | some a, some b => match eqS a b with
    | some r => bok (if neg = true then !r else r) h
    | none => if shp a && shp b then bok (if neg = true then !PyData.eqv a b else PyData.eqv a b) h else none
  | _, _ => none
section
variable {X : Cx}
theorem s_eq : Sem2 (fun x y H Q => rEq x y H Q ∨ rEqD X.K x y H Q) (eqW false) := by
  intro M H h x y wx wy Q rep rx ry c
  unfold eqW at c
  split at c
  · rename_i a b h1 h2
    have ra := deref_rr rep rx h1
    have rb := deref_rr rep ry h2
    split at c
    · rename_i r e
      obtain ⟨e1, e2⟩ := eqS_ok ra rb e
      subst e2
      exact .inl ⟨e1, c.here rep (.bl _)⟩
    · split at c
      · rename_i hz
        rw [Bool.and_eq_true] at hz
        exact .inr ⟨a, b, rr_dp ra (SeqAt.canLay_of_shaped hz.1), rr_dp rb (SeqAt.canLay_of_shaped hz.2), hz.1, hz.2, c.here rep (.bl _)⟩
      · exact c.no.elim
  · exact c.no.elim
theorem s_ne : Sem2 (fun x y H Q => rNe x y H Q ∨ rNeD X.K x y H Q) (eqW true) := by
  intro M H h x y wx wy Q rep rx ry c
  unfold eqW at c
  split at c
  · rename_i a b h1 h2
    have ra := deref_rr rep rx h1
    have rb := deref_rr rep ry h2
    split at c
    · rename_i r e
      obtain ⟨e1, e2⟩ := eqS_ok ra rb e
      subst e2
      exact .inl ⟨e1, c.here rep (.bl _)⟩
    · split at c
      · rename_i hz
        rw [Bool.and_eq_true] at hz
        exact .inr ⟨a, b, rr_dp ra (SeqAt.canLay_of_shaped hz.1), rr_dp rb (SeqAt.canLay_of_shaped hz.2), hz.1, hz.2, c.here rep (.bl _)⟩
      · exact c.no.elim
  · exact c.no.elim
theorem d_eq {k : Nat} (hr : Room k X.A) {a b : Expr} {pos : Pos} {f g : EM} (ha : DE X a f) (hb : DE X b g) : DE X (.Compare a [.Eq] [b] pos) (f2 (eqW false) f g) := d_cmp (op_eq.or (op_eqD hr.units)) s_eq ha hb (nomark _)
def isW (neg : Bool) (x y : W) (h : Hh) : Option (W × Hh) := match x, y with
  | .dat (.bool a), .dat (.bool b) => bok (if neg = true then !decide (a = b) else decide (a = b)) h
  | .dat .none, .dat .none => bok (!neg) h
  | _, .dat .none => bok neg h
  | _, _ => none
theorem rv_non {M : Mm} {H : Hp} {w : W} (r : RV M H .non w) : w = .dat .none := by
  cases w with
  | dat d => cases (show RD M H _ d from r); rfl
  | ref n => obtain ⟨_, _, e⟩ := r; cases e
  | scr n => obtain ⟨_, _, e, _⟩ := r; cases e
  | pack its => obtain ⟨_, _, e, _⟩ := r; cases e
  | lock its => obtain ⟨_, _, _, e, _⟩ := r; cases e
  | ins C fs => obtain ⟨_, _, _, e, _⟩ := r; cases e
  | exc k C fs => obtain ⟨_, _, _, e, _⟩ := r; cases e
  | objs os => obtain ⟨_, _, e, _⟩ := r; cases e
  | tpk its => obtain ⟨_, _, e, _⟩ := r; cases e
theorem s_is : Sem2 (fun x y H Q => (y = .non ∧ Q (.bl (decide (x = .non))) H) ∨ ∃ a b, x = .bl a ∧ y = .bl b ∧ Q (.bl (decide (a = b))) H) (isW false) := by
  intro M H h x y wx wy Q rep rx ry c
  unfold isW at c
  split at c
  · cases (show RD M H _ _ from rx); cases (show RD M H _ _ from ry)
    exact .inr ⟨_, _, rfl, rfl, c.here rep (.bl _)⟩
  · cases (show RD M H _ _ from rx); cases (show RD M H _ _ from ry)
    exact .inl ⟨rfl, c.here rep (.bl _)⟩
  · rename_i hn
    cases (show RD M H _ _ from ry)
    refine .inl ⟨rfl, ?_⟩
    have e : decide (x = V.non) = false := decide_eq_false fun z => by subst z; exact hn (rv_non rx)
    rw [e]
    exact c.here rep (.bl _)
  · exact c.no.elim
def fB (f : EM) : BM := fun ρ h => obnd (f ρ h) fun w h1 => match w with
  | .dat (.bool b) => some (b, h1)
  | _ => none
theorem test_imp {f : EM} : ∀ σ H Q, tT (fB f) σ H Q → tTest (tE f) σ H Q := fun σ H Q => by
  rintro ⟨M, h, ρ, r, rs, c⟩
  obtain ⟨w, h1, e1, c1⟩ := Cont.bind (δ := Unit) c
  refine ⟨M, h, ρ, r, rs, w, h1, e1, fun M1 H1 v x1 r1 v1 => ?_⟩
  have c2 := c1 M1 H1 x1
  split at c2
  · cases v1; exact ⟨_, rfl, c2.fin (.refl _ _) r1 rfl⟩
  · exact c2.no.elim
theorem dt_val {e : Expr} {f : EM} (h : DE X e f) (he : ∀ whole, isTrue e X.env whole = (do let v ← whole; standAt e.pos; holding [v] (truthy v)) := by intro _; rfl) : DT X e (fB f) := (pt_val h he).weak test_imp
theorem dt_of_cmp {a b : Expr} {op : CmpOp} {pos : Pos} {r : R2} {sem : W → W → Hh → Option (W × Hh)} {f g : EM} (ho : OpR X (compareOp op) r) (hs : Sem2 r sem) (ha : DE X a f) (hb : DE X b g) (hm : behindInMarks op b = false) : DT X (.Compare a [op] [b] pos) (fB (f2 sem f g)) :=
  (pt_cmpR ho ha hb hm).weak fun σ H Q q => by
    obtain ⟨M, h, ρ, r, rs, c⟩ := q
    obtain ⟨w, h1, e1, c1⟩ := Cont.bind (δ := Unit) c
    refine op_imp hs σ H _ ⟨M, h, ρ, r, rs, w, h1, e1, fun M1 H1 v x1 r1 v1 => ?_⟩
    have c2 := c1 M1 H1 x1
    split at c2
    · cases v1; exact ⟨_, rfl, c2.fin (.refl _ _) r1 rfl⟩
    · exact c2.no.elim
theorem t_lt {a b : Expr} {pos : Pos} {f g : EM} (ha : DE X a f) (hb : DE X b g) : DT X (.Compare a [.Lt] [b] pos) (fB (f2 lt_W f g)) := dt_of_cmp (op_lt.or op_lt_str) s_lt ha hb (nomark _)
theorem t_gt {a b : Expr} {pos : Pos} {f g : EM} (ha : DE X a f) (hb : DE X b g) : DT X (.Compare a [.Gt] [b] pos) (fB (f2 gt_W f g)) := dt_of_cmp (op_gt.or op_gt_str) s_lt ha hb (nomark _)
theorem t_eq {k : Nat} (hr : Room k X.A) {a b : Expr} {pos : Pos} {f g : EM} (ha : DE X a f) (hb : DE X b g) : DT X (.Compare a [.Eq] [b] pos) (fB (f2 (eqW false) f g)) := dt_of_cmp (op_eq.or (op_eqD hr.units)) s_eq ha hb (nomark _)
theorem t_ne {k : Nat} (hr : Room k X.A) {a b : Expr} {pos : Pos} {f g : EM} (ha : DE X a f) (hb : DE X b g) : DT X (.Compare a [.NotEq] [b] pos) (fB (f2 (eqW true) f g)) := dt_of_cmp (op_ne.or (op_neD hr.units)) s_ne ha hb (nomark _)
theorem t_is {a b : Expr} {pos : Pos} {f g : EM} (ha : DE X a f) (hb : DE X b g) : DT X (.Compare a [.Is] [b] pos) (fB (f2 (isW false) f g)) := dt_of_cmp (op_isN.or op_is_bl) s_is ha hb (nomark _)
def bAnd (f g : BM) : BM := fun ρ h => obnd (f ρ h) fun b h1 => if b = true then g ρ h1 else some (false, h1)
def bOr (f g : BM) : BM := fun ρ h => obnd (f ρ h) fun b h1 => if b = true then some (true, h1) else g ρ h1
def bNot (f : BM) : BM := fun ρ h => obnd (f ρ h) fun b h1 => some (!b, h1)
abbrev DW (X : Cx) (e : Expr) (f : BM) : Prop := PW X e (tT f)
theorem _root_.L2.PW.weak {X : Cx} {e : Expr} {t t' : TT} (h : PW X e t) (i : ∀ σ H Q, t' σ H Q → t σ H Q) : PW X e t' := ⟨fun wh pins s σ H Q I q => h.run wh pins s σ H Q I (i σ H Q q)⟩
theorem dw_and1 {a : Expr} {pos : Pos} {f : BM} (ha : DT X a f) : DW X (.BoolOp .And [a] pos) f := pw_and1 ha
theorem dw_or1 {a : Expr} {pos : Pos} {f : BM} (ha : DT X a f) : DW X (.BoolOp .Or [a] pos) f := pw_or1 ha
theorem dw_and {a b : Expr} {rest : List Expr} {pos : Pos} {f g : BM} (ha : DT X a f) (hb : DW X (.BoolOp .And (b :: rest) pos) g) : DW X (.BoolOp .And (a :: b :: rest) pos) (bAnd f g) := (pw_and ha hb).weak fun σ H Q => by
  rintro ⟨M, h, ρ, r, rs, c⟩
  obtain ⟨w, h1, e1, c1⟩ := Cont.bind (δ := Unit) c
  refine ⟨M, h, ρ, r, rs, w, h1, e1, fun M1 H1 v x1 r1 v1 => ?_⟩
  subst v1
  have c2 := c1 M1 H1 x1
  cases v with
  | true => exact iteT ⟨M1, h1, ρ, r1, rs.mono x1, c2⟩
  | false => exact iteF (c2.fin (.refl _ _) r1 rfl)
theorem dw_or {a b : Expr} {rest : List Expr} {pos : Pos} {f g : BM} (ha : DT X a f) (hb : DW X (.BoolOp .Or (b :: rest) pos) g) : DW X (.BoolOp .Or (a :: b :: rest) pos) (bOr f g) := (pw_or ha hb).weak fun σ H Q => by
  rintro ⟨M, h, ρ, r, rs, c⟩
  obtain ⟨w, h1, e1, c1⟩ := Cont.bind (δ := Unit) c
  refine ⟨M, h, ρ, r, rs, w, h1, e1, fun M1 H1 v x1 r1 v1 => ?_⟩
  subst v1
  have c2 := c1 M1 H1 x1
  cases v with
  | true => exact iteT (c2.fin (.refl _ _) r1 rfl)
  | false => exact iteF ⟨M1, h1, ρ, r1, rs.mono x1, c2⟩
theorem dt_not {a : Expr} {pos : Pos} {f : BM} (ha : DT X a f) : DT X (.UnaryOp .Not a pos) (bNot f) := (pt_not ha).weak fun σ H Q => by
  rintro ⟨M, h, ρ, r, rs, c⟩
  obtain ⟨w, h1, e1, c1⟩ := Cont.bind (δ := Unit) c
  refine ⟨M, h, ρ, r, rs, w, h1, e1, fun M1 H1 v x1 r1 v1 => ?_⟩
  subst v1
  exact (c1 M1 H1 x1).fin (.refl _ _) r1 rfl
def fAnd (f g : EM) : EM := fun ρ h => obnd (f ρ h) fun w h1 => match w with
  | .dat (.bool true) => g ρ h1
  | .dat (.bool false) => bok false h1
  | _ => none
def fOr (f g : EM) : EM := fun ρ h => obnd (f ρ h) fun w h1 => match w with
  | .dat (.bool true) => bok true h1
  | .dat (.bool false) => g ρ h1
  | _ => none
def fNot (f : EM) : EM := fun ρ h => obnd (f ρ h) fun w h1 => match w with
  | .dat (.bool b) => bok (!b) h1
  | _ => none
theorem d_one {op} {a : Expr} {pos : Pos} {f : EM} (ha : DE X a f) : DE X (.BoolOp op [a] pos) f := pe_one ha
theorem d_and {a b : Expr} {rest : List Expr} {pos : Pos} {f g : EM} (ha : DE X a f) (hb : DE X (.BoolOp .And (b :: rest) pos) g) : DE X (.BoolOp .And (a :: b :: rest) pos) (fAnd f g) := (pe_and ha hb).weak fun σ H Q => by
  rintro ⟨M, h, ρ, r, rs, c⟩
  obtain ⟨w, h1, e1, c1⟩ := Cont.bind (δ := Unit) c
  refine ⟨M, h, ρ, r, rs, w, h1, e1, fun M1 H1 v x1 r1 v1 => ?_⟩
  have c2 := c1 M1 H1 x1
  split at c2
  · cases v1; exact ⟨true, rfl, iteT ⟨M1, h1, ρ, r1, rs.mono x1, c2⟩⟩
  · cases v1; exact ⟨false, rfl, iteF (c2.here r1 (.bl _))⟩
  · exact c2.no.elim
def fIf (t : BM) (f g : EM) : EM := fun ρ h => obnd (t ρ h) fun b h1 => if b = true then f ρ h1 else g ρ h1
theorem d_if {c a b : Expr} {pos : Pos} {t : BM} {f g : EM} (hc : DT X c t) (ha : DE X a f) (hb : DE X b g) : DE X (.IfExp c a b pos) (fIf t f g) := (pe_ifExp hc ha hb).weak fun σ H Q => by
  rintro ⟨M, h, ρ, r, rs, c⟩
  obtain ⟨w, h1, e1, c1⟩ := Cont.bind (δ := Unit) c
  refine ⟨M, h, ρ, r, rs, w, h1, e1, fun M1 H1 v x1 r1 v1 => ?_⟩
  subst v1
  have c2 := c1 M1 H1 x1
  cases v with
  | true => exact iteT ⟨M1, h1, ρ, r1, rs.mono x1, c2⟩
  | false => exact iteF ⟨M1, h1, ρ, r1, rs.mono x1, c2⟩
def fChain (s1 s2 : W → W → Hh → Option (W × Hh)) (f g k : EM) : EM := fun ρ h => obnd (f ρ h) fun a h1 => obnd (g ρ h1) fun b h2 => obnd (s1 a b h2) fun z h3 => match z with
  | .dat (.bool true) => obnd (k ρ h3) fun d h4 => s2 b d h4
  | .dat (.bool false) => bok false h3
  | _ => none
theorem chain_imp {r1 r2 : R2} {s1 s2 : W → W → Hh → Option (W × Hh)} {f g k : EM} (hs1 : Sem2 r1 s1) (hs2 : Sem2 r2 s2) : ∀ σ H Q, tE (fChain s1 s2 f g k) σ H Q → tChain r1 r2 (tE f) (tE g) (tE k) σ H Q := fun σ H Q => by
  rintro ⟨M, h, ρ, r, rs, c⟩
  obtain ⟨w, h1, e1, c1⟩ := Cont.bind (δ := Unit) c
  refine ⟨M, h, ρ, r, rs, w, h1, e1, fun M1 H1 v x1 r1 v1 => ⟨M1, h1, ρ, r1, rs.mono x1, ?_⟩⟩
  obtain ⟨w2, h2, e2, c2⟩ := Cont.bind (δ := Unit) (c1 M1 H1 x1)
  refine ⟨w2, h2, e2, fun M2 H2 v2 x2 r2 q2 => hs1 M2 H2 h2 _ _ w w2 _ r2 (v1.mono x2) q2 ?_⟩
  obtain ⟨w3, h3, e3, c3⟩ := Cont.bind (δ := Unit) (c2 M2 H2 x2)
  refine ⟨w3, h3, e3, fun M3 H3 v3 x3 r3 q3 => ?_⟩
  have c4 := c3 M3 H3 x3
  split at c4
  · cases q3
    refine ⟨true, rfl, iteT ⟨M3, h3, ρ, r3, ((rs.mono x1).mono x2).mono x3, ?_⟩⟩
    obtain ⟨w5, h5, e5, c5⟩ := Cont.bind (δ := Unit) c4
    exact ⟨w5, h5, e5, fun M5 H5 v5 x5 r5 q5 => hs2 M5 H5 h5 _ _ w2 w5 _ r5 ((q2.mono x3).mono x5) q5 (c5 M5 H5 x5)⟩
  · cases q3
    exact ⟨false, rfl, iteF (c4.here r3 (.bl _))⟩
  · exact c4.no.elim
theorem d_chain {a b c : Expr} {op op' : CmpOp} {pos : Pos} {r1 r2 : R2} {s1 s2 : W → W → Hh → Option (W × Hh)} {f g k : EM} (h1 : OpR X (compareOp op) r1) (hs1 : Sem2 r1 s1) (h2 : OpR X (compareOp op') r2) (hs2 : Sem2 r2 s2) (ha : DE X a f) (hb : DE X b g) (hc : DE X c k)
    (hm : lastMarks [op, op'] [b, c] = false := by with_unfolding_all rfl) : DE X (.Compare a [op, op'] [b, c] pos) (fChain s1 s2 f g k) := (pe_chain h1 h2 ha hb hc hm).weak (chain_imp hs1 hs2)
theorem t_chain {a b c : Expr} {op op' : CmpOp} {pos : Pos} {r1 r2 : R2} {s1 s2 : W → W → Hh → Option (W × Hh)} {f g k : EM} (h1 : OpR X (compareOp op) r1) (hs1 : Sem2 r1 s1) (h2 : OpR X (compareOp op') r2) (hs2 : Sem2 r2 s2) (ha : DE X a f) (hb : DE X b g) (hc : DE X c k)
    (hm : lastMarks [op, op'] [b, c] = false := by with_unfolding_all rfl) : DT X (.Compare a [op, op'] [b, c] pos) (fB (fChain s1 s2 f g k)) := (pt_chain h1 h2 ha hb hc hm).weak fun σ H Q q => by
    obtain ⟨M, h, ρ, r, rs, c⟩ := q
    obtain ⟨w, h1, e1, c1⟩ := Cont.bind (δ := Unit) c
    refine chain_imp hs1 hs2 σ H _ ⟨M, h, ρ, r, rs, w, h1, e1, fun M1 H1 v x1 r1 v1 => ?_⟩
    have c2 := c1 M1 H1 x1
    split at c2
    · cases v1; exact ⟨_, rfl, c2.fin (.refl _ _) r1 rfl⟩
    · exact c2.no.elim
end
end DL
set_option maxRecDepth 100000
set_option maxHeartbeats 4000000
namespace DL
open PySem PySem.Spec PyProof.Rows L2
variable [HW]
def dKey : D → Option Key
  | .int i => some (.inl i)
  | .str s => some (.inr s)
  | _ => none
def dKeys : List D → Option (List Key)
  | [] => some []
  | d :: ds => match dKey d, dKeys ds with
    | some k, some ks => some (k :: ks)
    | _, _ => none
def tKey : D → Option (List Key)
  | .tuple ds => dKeys ds
  | _ => none
def getK (es : List (D × D)) (k : Key) : Option D := (es.find? fun e => decide (dKey e.1 = some k)).map (·.2)
def getT (es : List (D × D)) (k : List Key) : Option D := (es.find? fun e => decide (tKey e.1 = some k)).map (·.2)
def isT : List (D × D) → Bool
  | (.none, .none) :: _ => true
  | _ => false
def bareK : D → Bool
  | .tuple ds => pairD ds
  | _ => false
def getD (es : List (D × D)) (k : D) : Option (Option D) := if isT es = true then (if bareK k = true then none else (tKey k).map (getT es.tail)) else (dKey k).map (getK es)
theorem dKey_kP (k : Key) : dKey (kP k) = some k := by cases k <;> rfl
theorem dKeys_kP : ∀ ks : List Key, dKeys (ks.map kP) = some ks
  | [] => rfl
  | k :: ks => by simp only [List.map_cons, dKeys, dKey_kP, dKeys_kP ks]
theorem kP_dKey {d : D} {k : Key} (e : dKey d = some k) : d = kP k := by
  cases d <;> simp only [dKey, Option.some.injEq, reduceCtorEq] at e <;> subst e <;> rfl
theorem kP_dKeys : ∀ {ds : List D} {ks : List Key}, dKeys ds = some ks → ds = ks.map kP
  | [], ks, e => by cases e; rfl
  | d :: ds, ks, e => by
    simp only [dKeys] at e
    split at e
    · rename_i k ks' h1 h2
      cases e
      rw [List.map_cons, ← kP_dKey h1, ← kP_dKeys h2]
    · cases e
section
variable {M : Mm} {H : Hp}
theorem rd_kP {v : V} {k : Key} (r : RD M H v (kP k)) : v = kV k := by
  cases k <;> (cases r; rfl)
theorem rds_kP : ∀ {vs : List V} {ks : List Key}, RDs M H vs (ks.map kP) → vs = ks.map kV
  | _, [], r => by cases r; rfl
  | _, k :: ks, r => by
    cases r with
    | cons a t => rw [List.map_cons, ← rd_kP a, ← rds_kP t]
def RDo (M : Mm) (H : Hp) : Option V → Option D → Prop
  | some v, some d => RD M H v d
  | none, none => True
  | _, _ => False
theorem RDk.val (k : Key) : ∀ {kvs : List (Key × V)} {es : List (D × D)}, RDk M H kvs es → RDo M H (valV kvs k) (getK es k)
  | _, _, .nil => trivial
  | _, _, .cons (k := j) r t => by
    by_cases e : j = k
    · subst e
      rw [valV_pos rfl]
      unfold getK
      simp only [List.find?_cons, dKey_kP, decide_true, Option.map_some]
      exact r
    · rw [valV_neg e]
      have ih := RDk.val k t
      unfold getK at ih ⊢
      simp only [List.find?_cons, dKey_kP, Option.some.injEq, e, decide_false]
      exact ih
theorem RDt.val (k : List Key) : ∀ {kvs : List KA} {es : List (D × D)}, RDt M H kvs es → RDo M H (valA kvs k) (getT es k)
  | _, _, .nil => trivial
  | _, _, .cons (k := j) _ _ r t => by
    have ih := RDt.val k t
    unfold getT valA atA at ih ⊢
    by_cases e : j = k
    · subst e
      simp only [List.find?_cons, tKey, dKeys_kP, decide_true, Option.map_some]
      exact r
    · simp only [List.find?_cons, tKey, dKeys_kP, Option.some.injEq, e, decide_false]
      exact ih
theorem isT_rdk : ∀ {kvs : List (Key × V)} {es : List (D × D)}, RDk M H kvs es → isT es = false
  | _, _, .nil => rfl
  | _, _, .cons (k := k) r t => by cases k <;> rfl
theorem get_ok {x y : V} {es : List (D × D)} {k : D} {o : Option D} (rx : RR M H x (.dict es)) (ry : RD M H y k) (e : getD es k = some o) : ∃ a ov, x = .ref a ∧ DGetX H a y ov ∧ RDo M H ov o := by
  rcases rx with ⟨a, kvs, rfl, ha, r⟩ | ⟨a, kvs, es', rfl, rfl, ha, r⟩
  · unfold getD at e
    rw [isT_rdk r] at e
    simp only [Bool.false_eq_true, if_false, Option.map_eq_some_iff] at e
    obtain ⟨k', e1, e2⟩ := e
    have := kP_dKey e1
    subst this
    rw [rd_kP ry]
    exact ⟨a, _, rfl, .inl (DGet.k ha), e2 ▸ r.val k'⟩
  · unfold getD at e
    simp only [isT, if_true] at e
    split at e
    · cases e
    simp only [Option.map_eq_some_iff, List.tail_cons] at e
    obtain ⟨k', e1, e2⟩ := e
    cases k with
    | tuple ds =>
      have := kP_dKeys (show dKeys ds = some k' from e1)
      subst this
      cases ry with
      | tup _ hb rb =>
        rw [rds_kP rb] at hb
        exact ⟨a, _, rfl, .inr ⟨_, _, _, ha, r.kx, rfl, hb.rd, rfl⟩, e2 ▸ r.val k'⟩
    | _ => cases e1
end
def idxW (x y : W) (h : Hh) : Option (W × Hh) := match x, y with
  | .scr ns, .dat (.int i) => match atI ns i with
    | some n => ok (.int n) h
    | none => none
  | x, .dat k => match deref h x, k with
    | some (.list ds), .int i => match atI ds i with
      | some d => ok d h
      | none => none
    | some (.tuple ds), .int i => match atI ds i with
      | some d => ok d h
      | none => none
    | some (.str z), .int i => if z.length ≤ sizeLine then match atI z.cps.toList i with
        | some c => ok (.str ⟨#[c]⟩) h
        | none => none
      else none
    | some (.dict es), k => match getD es k with
      | some (some d) => ok d h
      | _ => none
    | _, _ => none
  | _, _ => none
section
variable {X : Cx}
def rIxDict : R2 := fun x y H Q => ∃ a v, x = .ref a ∧ DGetX H a y (some v) ∧ Q v H
theorem ix_dict (hu : X.A.units + 1 < cLine) (W : HWX X) : IxR X rIxDict := by
  intro value slice pins s σ H x y v u Q I rx ry q hs
  obtain ⟨a, z, rfl, g, q⟩ := q
  obtain rfl : v = Value.ref a := rx
  have tis := dx_typeIs W I g
  unfold subscriptTail
  refine wpAny_bind ?_
  rw [getitemInPython_of_ne tis.not_modules]
  refine wpAny_bind (wpAny_specialOf tis F.slot_dict_getitem.lookup ?_)
  have gi := dx_getItem (A := X.A) (E := X.xe) hu W I g ry fun w' s3 I3 rw' => (⟨z, H, I3, rw', q⟩ : EP X pins σ Q w' s3)
  have done : wpAny (model X.prog X.w) X.A (subscripted slice false (.ref a) u) (fun r s₃ => wpAny (model X.prog X.w) X.A (letTemporaryGo value (.ref a) r >>= fun _ => pure r) (EP X pins σ Q) X.xe s₃) X.xe s := by
    rw [hs]; exact wpAny_operating (wpAny_mono gi (fun r s₃ k => wpAny_bind (wpAny_letTemporaryGo (wpAny_pure k))) fun _ _ k => k)
  first | exact wpAny_pure (wpAny_bind done) | exact wpAny_bind (wpAny_pure (wpAny_bind done)) | exact wpAny_bind done
theorem scr_atI {ns : List Int} {i : Int} {n : Int} (e : atI ns i = some n) : atI (ns.map V.int) i = some (.int n) := by
  unfold atI at e ⊢
  rw [List.length_map]
  cases q : ixN ns.length i with
  | none => rw [q] at e; cases e
  | some j => rw [q] at e; simp only [Option.bind_some] at e ⊢; rw [List.getElem?_map, e]; rfl
theorem s_idx : Sem2 (fun x y H Q => rIx X.K x y H Q ∨ rIxDict x y H Q) idxW := by
  intro M H h x y wx wy Q rep rx ry c
  unfold idxW at c
  split at c
  · rename_i ns i
    obtain ⟨a, o, rfl, _, ha⟩ := rx
    cases (show RD M H _ _ from ry)
    split at c
    · rename_i n e
      exact .inl (.inl ⟨a, _, i, _, rfl, rfl, .inl (.inr ⟨o, ha⟩), scr_atI e, c.here rep (.int _)⟩)
    · exact c.no.elim
  · split at c
    · rename_i ds i e1 hn
      obtain ⟨a, xs, rfl, ha, qa⟩ := deref_rr rep rx e1
      cases (show RD M H _ _ from ry)
      split at c
      · rename_i d e
        obtain ⟨v, ev, rv⟩ := qa.atI e
        exact .inl (.inl ⟨a, _, i, v, rfl, rfl, .of ha, ev, c.here rep rv⟩)
      · exact c.no.elim
    · rename_i ds i e1 hn
      obtain ⟨a, xs, rfl, _, ha, qa⟩ := rr_tup (deref_rr rep rx e1)
      cases (show RD M H _ _ from ry)
      split at c
      · rename_i d e
        obtain ⟨v, ev, rv⟩ := qa.atI e
        exact .inl (.inr (.inl ⟨a, _, i, v, rfl, rfl, ha.sq, ev, c.here rep rv⟩))
      · exact c.no.elim
    · rename_i z i e1 hn
      obtain rfl := rr_str (deref_rr rep rx e1)
      cases (show RD M H _ _ from ry)
      split at c
      · rename_i hz
        split at c
        · rename_i d e
          exact .inl (.inr (.inr ⟨z, i, d, rfl, rfl, hz, e, c.here rep (.str _)⟩))
        · exact c.no.elim
      · exact c.no.elim
    · rename_i es e1 hn
      split at c
      · rename_i d e
        obtain ⟨a, ov, rfl, g, ro⟩ := get_ok (deref_rr rep rx e1) ry e
        cases ov with
        | none => exact ro.elim
        | some v => exact .inr ⟨a, v, rfl, g, c.here rep ro⟩
      · exact c.no.elim
    · exact c.no.elim
  · exact c.no.elim
theorem d_idx {k : Nat} (hr : Room k X.A) {a b : Expr} {pos : Pos} {f g : EM} (ha : DE X a f) (hb : DE X b g) (hs : PlainIx b) (W : HWX X := by exact ⟨rfl, rfl⟩) : DE X (.Subscript a b pos) (f2 idxW f g) :=
  (pe_ix (ix_seq.or (ix_dict (hu_of hr) W)) ha hb hs).weak (op_imp s_idx)
def cutG {α : Type} (xs : List α) (lo hi : Option Int) : List α := (xs.drop (HT.sIx xs.length 0 lo)).take (HT.sIx xs.length xs.length hi - HT.sIx xs.length 0 lo)
theorem RDs.cut {M : Mm} {H : Hp} {xs : List V} {ds : List D} (r : RDs M H xs ds) (lo hi : Option Int) : RDs M H (cutV xs lo hi) (cutG ds lo hi) := by
  unfold cutV cutG
  rw [r.length]
  exact (r.drop _).take _
def oNone : OM := fun _ h => some (none, h)
def oSome (f : EM) : OM := fun ρ h => obnd (f ρ h) fun w h1 => match w with
  | .dat (.int i) => some (some i, h1)
  | _ => none
abbrev DO (X : Cx) (e : Option Expr) (f : OM) : Prop := PO X e (tO f)
theorem _root_.L2.PO.weak {X : Cx} {e : Option Expr} {t t' : TO} (h : PO X e t) (i : ∀ σ H Q, t' σ H Q → t σ H Q) : PO X e t' := ⟨fun pins s σ H Q I q => h.run pins s σ H Q I (i σ H Q q)⟩
theorem do_none : DO X none oNone := po_none.weak fun σ H Q => by
  rintro ⟨M, h, ρ, r, rs, c⟩
  exact c.fin (.refl _ _) r rfl
theorem do_some {e : Expr} {f : EM} (he : DE X e f) : DO X (some e) (oSome f) := (po_some he).weak fun σ H Q => by
  rintro ⟨M, h, ρ, r, rs, c⟩
  obtain ⟨w, h1, e1, c1⟩ := Cont.bind (δ := Unit) c
  refine ⟨M, h, ρ, r, rs, w, h1, e1, fun M1 H1 v x1 r1 v1 => ?_⟩
  have c2 := c1 M1 H1 x1
  split at c2
  · cases v1; exact ⟨_, rfl, c2.fin (.refl _ _) r1 rfl⟩
  · exact c2.no.elim
def cutW (m : Bool) (x : W) (lo hi : Option Int) (h : Hh) : Option (W × Hh) := match x with
  | .scr ns => mkL m ((cutG ns lo hi).map .int) h
  | x => match deref h x with
    | some (.list ds) => mkL m (cutG ds lo hi) h
    | some (.tuple ds) => ok (.tuple (cutG ds lo hi)) h
    | some (.str z) => if z.length ≤ sizeLine then ok (.str (cutS z lo hi)) h else none
    | _ => none
def fSl (m : Bool) (f : EM) (lo hi : OM) : EM := fun ρ h => obnd (f ρ h) fun w h1 => obnd (lo ρ h1) fun a h2 => obnd (hi ρ h2) fun b h3 => cutW m w a b h3
theorem cut_ints (ns : List Int) (lo hi : Option Int) {M : Mm} {H : Hp} : RDs M H (cutV (ns.map V.int) lo hi) ((cutG ns lo hi).map .int) := by
  have e : cutV (ns.map V.int) lo hi = (cutG ns lo hi).map V.int := by
    unfold cutV cutG
    rw [List.length_map, List.map_take, List.map_drop]
  rw [e]
  generalize cutG ns lo hi = l
  induction l with
  | nil => exact .nil
  | cons a t ih => exact .cons (.int a) ih
theorem cut_whole {α : Type} {xs : List α} {lo hi : Option Int} (e : HT.sIx xs.length 0 lo = 0 ∧ HT.sIx xs.length xs.length hi = xs.length) : cutG xs lo hi = xs := by
  unfold cutG
  rw [e.1, e.2]
  simp
def rSlB (K : PySem.W.Frag) : V → Option Int → Option Int → Hp → VK → Prop := fun x lo hi H Q => ∃ a vs, x = .ref a ∧ SqT K H a vs ∧
  ((HT.sIx vs.length 0 lo = 0 ∧ HT.sIx vs.length vs.length hi = vs.length → Q (.ref a) H) ∧ ∃ bb : Bool, ∀ p o, H p = none → o.dict = none → Q (.ref p) (upd H p (bareO bb o (cutV vs lo hi))))
theorem sl_tupB : SlR X (rSlB X.K) := by
  rintro pins s σ H x v vl vu lo hi sl Q I rx hs pl pu ⟨a, vs, rfl, hx, f1, bb, f2⟩
  by_cases hw : HT.sIx vs.length 0 lo = 0 ∧ HT.sIx vs.length vs.length hi = vs.length
  · exact sl_tupA pins s σ H _ v vl vu lo hi sl Q I rx hs pl pu ⟨a, vs, rfl, hx, f1, fun n => absurd hw n⟩
  · cases rx
    obtain ⟨l, r, ht, hz⟩ := I.tuple hx
    have hn : l.toArray.size = vs.length := by rw [List.size_toArray, r.length]
    refine ⟨"tuple", _, PyProof.Rows.slot_tuple_getitem.lookup, ht.typeIs, HT.getItem_tuple_cut ht hs pl pu (by rwa [hn]) ?_ (by rwa [hn])⟩
    rw [hn]
    exact ⟨.ref s.heap.objs.size, _, I.laid (t' := s.toks) (o := bareO bb _ (cutV vs lo hi)) (fun _ _ q => Heap.get?_push_of_some _ q) (Nat.le_refl _)
      (bare_ok bb (Heap.get?_push_size _ rfl) fun G => ⟨Nat.le_trans (cutV_length vs lo hi) hz, _, (r.drop _).take _, IsTup.new _ _⟩), rfl, f2 _ _ (I.hok.fresh (Nat.le_refl _)) rfl⟩
theorem d_slice (m : Bool) {a : Expr} {lo hi : Option Expr} {p2 pos : Pos} {f : EM} {fl fh : OM} (ha : DE X a f) (hl : DO X lo fl) (hh : DO X hi fh) : DE X (.Subscript a (.Slice lo hi none p2) pos) (fSl m f fl fh) :=
  (pe_slice (sl_list.or (sl_tupB.or sl_str)) ha hl hh).weak fun σ H Q => by
    rintro ⟨M, h, ρ, r, rs, c⟩
    obtain ⟨w, h1, e1, c1⟩ := Cont.bind (δ := Unit) c
    refine ⟨M, h, ρ, r, rs, w, h1, e1, fun M1 H1 v x1 r1 v1 => ⟨M1, h1, ρ, r1, rs.mono x1, ?_⟩⟩
    obtain ⟨w2, h2, e2, c2⟩ := Cont.bind (δ := Unit) (c1 M1 H1 x1)
    refine ⟨w2, h2, e2, fun M2 H2 v2 x2 r2 q2 => ⟨M2, h2, ρ, r2, (rs.mono x1).mono x2, ?_⟩⟩
    subst q2
    obtain ⟨w3, h3, e3, c3⟩ := Cont.bind (δ := Unit) (c2 M2 H2 x2)
    refine ⟨w3, h3, e3, fun M3 H3 v3 x3 r3 q3 => ?_⟩
    subst q3
    have c4 := c3 M3 H3 x3
    have v3' := (v1.mono x2).mono x3
    unfold cutW at c4
    split at c4
    · obtain ⟨b, o, rfl, _, hb⟩ := v3'
      exact .inl ⟨b, _, rfl, .inl (.inr ⟨o, hb⟩), fun p np => mkL_fin r3 np (cut_ints _ _ _) c4⟩
    · split at c4
      · rename_i ds e4
        obtain ⟨b, xs, rfl, hb, qb⟩ := deref_rr r3 v3' e4
        exact .inl ⟨b, xs, rfl, .of hb, fun p np => mkL_fin r3 np (qb.cut _ _) c4⟩
      · rename_i ds e4
        obtain ⟨b, xs, rfl, nb, hb, qb⟩ := rr_tup (deref_rr r3 v3' e4)
        refine .inr (.inl ⟨b, xs, rfl, hb.sq, fun e => ?_, _, fun p o np ho => mkB_fin r3 np (qb.cut _ _) ho c4⟩)
        rw [qb.length] at e
        rw [cut_whole e] at c4
        exact c4.here r3 (.tup nb hb qb)
      · rename_i z e4
        obtain rfl := rr_str (deref_rr r3 v3' e4)
        split at c4
        · rename_i hz
          exact .inr (.inr ⟨z, rfl, hz, c4.here r3 (.str _)⟩)
        · exact c4.no.elim
      · exact c4.no.elim
def dats : List W → Option (List D)
  | [] => some []
  | .dat d :: ws => (dats ws).map (d :: ·)
  | _ :: _ => none
@[simp] theorem dats_nil : dats [] = some [] := rfl
@[simp] theorem dats_cons (d : D) (ws : List W) : dats (.dat d :: ws) = (dats ws).map (d :: ·) := rfl
theorem rvs_dats {M : Mm} {H : Hp} : ∀ {vs : List V} {ws : List W} {ds : List D}, RVs M H vs ws → dats ws = some ds → RDs M H vs ds
  | _, _, _, .nil, e => by cases e; exact .nil
  | _, .dat d :: ws, _, .cons a t, e => by
    simp only [dats_cons, Option.map_eq_some_iff] at e
    obtain ⟨ds', e1, rfl⟩ := e
    exact .cons a (rvs_dats t e1)
  | _, .ref n :: ws, _, .cons a t, e => by cases e
  | _, .scr n :: ws, _, .cons a t, e => by cases e
  | _, .pack n :: ws, _, .cons a t, e => by cases e
  | _, .lock n :: ws, _, .cons a t, e => by cases e
  | _, .ins C fs :: ws, _, .cons a t, e => by cases e
  | _, .exc k C fs :: ws, _, .cons a t, e => by cases e
  | _, .objs os :: ws, _, .cons a t, e => by cases e
def lstW (m : Bool) (ws : List W) (h : Hh) : Option (W × Hh) := match dats ws with
  | some ds => if ds.length ≤ sizeLine then mkL m ds h else none
  | none => none
def tupW (ws : List W) (h : Hh) : Option (W × Hh) := match dats ws with
  | some ds => if ds.length ≤ sizeLine then ok (.tuple ds) h else none
  | none => none
def fA (sem : List W → Hh → Option (W × Hh)) (g : AM) : EM := fun ρ h => obnd (g ρ h) sem
theorem d_lst (m : Bool) {es : List Expr} {pos : Pos} {g : AM} (hg : DA X es g) : DE X (.List es pos) (fA (lstW m) g) := (pe_lst hg).weak fun σ H Q => by
  rintro ⟨M, h, ρ, r, rs, c⟩
  obtain ⟨w, h1, e1, c1⟩ := Cont.bind (δ := Unit) c
  refine ⟨M, h, ρ, r, rs, w, h1, e1, fun M1 H1 v x1 r1 v1 => ?_⟩
  have c2 := c1 M1 H1 x1
  unfold lstW at c2
  split at c2
  · rename_i ds e
    have q := rvs_dats v1 e
    split at c2
    · rename_i hz
      exact ⟨by rw [q.length]; exact hz, fun p np => mkL_fin r1 np q c2⟩
    · exact c2.no.elim
  · exact c2.no.elim
def tTupB (t : TA) : TE := fun σ H Q => t σ H fun xs H1 => xs.length ≤ sizeLine ∧ ∃ b : Bool, ∀ p o, H1 p = none → o.dict = none → Q (.ref p) (upd H1 p (bareO b o xs))
theorem pe_tupB {x1} {es : List Expr} {t : TA} {pos : Pos} (h : PA X es t) : PE X (.Tuple es x1 pos) (tTupB t) := by
  constructor
  intro pins s σ H Q I hq
  apply wpAny_Tuple_spliced
  refine thn (h.run pos pins s σ H _ I hq) fun us s1 ⟨xs, H1, I1, r, z, b, q⟩ => ⟨r.length ▸ z, ?_⟩
  have hn := I1.hok.fresh (Nat.le_refl s1.heap.objs.size)
  exact ⟨.ref s1.heap.objs.size, _, I1.laid (t' := s1.toks) (o := bareO b _ xs) (fun _ _ e => Heap.get?_push_of_some _ e) (Nat.le_refl _) (bare_ok b (Heap.get?_push_size _ rfl) fun G => ⟨z, us, r, IsTup.new _ _⟩), rfl, q _ _ hn rfl⟩
theorem d_tup {x1} {es : List Expr} {pos : Pos} {g : AM} (hg : DA X es g) : DE X (.Tuple es x1 pos) (fA tupW g) := (pe_tupB hg).weak fun σ H Q => by
  rintro ⟨M, h, ρ, r, rs, c⟩
  obtain ⟨w, h1, e1, c1⟩ := Cont.bind (δ := Unit) c
  refine ⟨M, h, ρ, r, rs, w, h1, e1, fun M1 H1 v x1 r1 v1 => ?_⟩
  have c2 := c1 M1 H1 x1
  unfold tupW at c2
  split at c2
  · rename_i ds e
    have q := rvs_dats v1 e
    split at c2
    · rename_i hz
      exact ⟨by rw [q.length]; exact hz, callD ds, fun p o np ho => mkB_fin r1 np q ho c2⟩
    · exact c2.no.elim
  · exact c2.no.elim
end
end DL
set_option maxRecDepth 100000
set_option maxHeartbeats 4000000
namespace DL
open PySem PySem.Spec PyProof.Rows L2
variable [HW]
def SemA (r : List V → Hp → VK → Prop) (sem : List W → Hh → Option (W × Hh)) : Prop := ∀ (M : Mm) (H : Hp) (h : Hh) (vs : List V) (ws : List W) (Q : VK), Rep M H h → RVs M H vs ws → Cont RV (sem ws h) M H Q → r vs H Q
theorem call_imp {r : List V → Hp → VK → Prop} {sem : List W → Hh → Option (W × Hh)} {g : AM} (hs : SemA r sem) : ∀ σ H Q, tE (fA sem g) σ H Q → tCB r (tA g) σ H Q := fun σ H Q => by
  rintro ⟨M, h, ρ, r, rs, c⟩
  obtain ⟨w, h1, e1, c1⟩ := Cont.bind (δ := Unit) c
  exact ⟨M, h, ρ, r, rs, w, h1, e1, fun M1 H1 v x1 r1 v1 => hs M1 H1 h1 v w Q r1 v1 (c1 M1 H1 x1)⟩
section
variable {X : Cx}
theorem d_callB {x : Str} {p pos : Pos} {e : Expr} {es : List Expr} {id : String} {r : List V → Hp → VK → Prop} {sem : List W → Hh → Option (W × Hh)} {g : AM} (hc : CallR X (.builtin id) r) (hs : SemA r sem) (hm : X.mg x = none) (hv : bootBuiltins x = some (.builtin id)) (ha : DA X (e :: es) g)
    (hg : Gl X x := by rfl) (hn : x ≠ "__name__" := by decide) (hdb : (x == ("__debug__" : Str)) = false := by decide) (he : starEach (e :: es) X.env = (false, eval e X.env) :: starEach es X.env := by rfl) (hpl : (backTo pos (starEach es X.env)).any (·.1) = false := by rfl) :
    DE X (.Call (.Name x p) (e :: es) [] pos) (fA sem g) := (pe_callB hc hg hm hv ha hn hdb he hpl).weak (call_imp hs)
theorem d_callT {x : Str} {p pos : Pos} {e : Expr} {es : List Expr} {T : String} {r : List V → Hp → VK → Prop} {sem : List W → Hh → Option (W × Hh)} {g : AM} (hc : CallR X (.type T) r) (hs : SemA r sem) (hm : X.mg x = none) (hv : bootBuiltins x = some (.type T)) (ha : DA X (e :: es) g)
    (hg : Gl X x := by rfl) (hn : x ≠ "__name__" := by decide) (hdb : (x == ("__debug__" : Str)) = false := by decide) (he : starEach (e :: es) X.env = (false, eval e X.env) :: starEach es X.env := by rfl) (hpl : (backTo pos (starEach es X.env)).any (·.1) = false := by rfl) :
    DE X (.Call (.Name x p) (e :: es) [] pos) (fA sem g) := (pe_callTy hc hg hm hv ha hn hdb he hpl).weak (call_imp hs)
theorem rvs1 {M : Mm} {H : Hp} {vs : List V} {w : W} (r : RVs M H vs [w]) : ∃ v, vs = [v] ∧ RV M H v w := by
  cases r with
  | cons a t => cases t; exact ⟨_, rfl, a⟩
theorem rvs2 {M : Mm} {H : Hp} {vs : List V} {w u : W} (r : RVs M H vs [w, u]) : ∃ v v', vs = [v, v'] ∧ RV M H v w ∧ RV M H v' u := by
  cases r with
  | cons a t => cases t with
    | cons b t => cases t; exact ⟨_, _, rfl, a, b⟩
def lenW (ws : List W) (h : Hh) : Option (W × Hh) := match ws with
  | [.scr ns] => ok (.int ns.length) h
  | [w] => match deref h w with
    | some (.list ds) => ok (.int ds.length) h
    | some (.tuple ds) => ok (.int ds.length) h
    | some (.str z) => if z.length ≤ sizeLine then ok (.int z.length) h else none
    | some (.dict es) => if isT es = true then none else ok (.int es.length) h
    | _ => none
  | _ => none
theorem RDk.length {M : Mm} {H : Hp} : ∀ {kvs : List (Key × V)} {es : List (D × D)}, RDk M H kvs es → kvs.length = es.length
  | _, _, .nil => rfl
  | _, _, .cons _ r => by rw [List.length_cons, List.length_cons, r.length]
theorem s_len : SemA (fun xs H Q => (∃ x n, xs = [x] ∧ LenV X.K x H n ∧ Q (.int n) H) ∨ ∃ d kvs, xs = [.ref d] ∧ H d = some (.dK kvs) ∧ Q (.int (kvs.length : Nat)) H) lenW := by
  intro M H h vs ws Q rep rv c
  unfold lenW at c
  split at c
  · rename_i ns
    obtain ⟨v, rfl, r⟩ := rvs1 rv
    obtain ⟨a, o, rfl, _, ha⟩ := r
    exact .inl ⟨_, ns.length, rfl, .inl ⟨_, .inl (.inr ⟨o, ha⟩), by simp⟩, c.here rep (.int _)⟩
  · obtain ⟨v, rfl, r⟩ := rvs1 rv
    split at c
    · rename_i ds e
      obtain ⟨a, xs, rfl, ha, q⟩ := deref_rr rep r e
      exact .inl ⟨_, ds.length, rfl, .inl ⟨_, .of ha, q.length.symm⟩, c.here rep (.int _)⟩
    · rename_i ds e
      obtain ⟨a, xs, rfl, _, ha, q⟩ := rr_tup (deref_rr rep r e)
      exact .inl ⟨_, ds.length, rfl, .inr ⟨_, ha.sq, q.length.symm⟩, c.here rep (.int _)⟩
    · rename_i z e
      obtain rfl := rr_str (deref_rr rep r e)
      split at c
      · rename_i hz
        exact .inl ⟨_, z.length, rfl, ⟨hz, rfl⟩, c.here rep (.int _)⟩
      · exact c.no.elim
    · rename_i es e
      split at c
      · exact c.no.elim
      · rename_i ht
        rcases deref_rr rep r e with ⟨a, kvs, rfl, ha, q⟩ | ⟨a, kvs, es', rfl, rfl, ha, q⟩
        · rw [← q.length] at c
          exact .inr ⟨a, kvs, rfl, ha, c.here rep (.int _)⟩
        · exact absurd rfl ht
    · exact c.no.elim
  · exact c.no.elim
theorem d_len (hm : X.mg "len" = none) {p pos : Pos} {e : Expr} {g : AM} (ha : DA X [e] g) (hg : Gl X "len" := by rfl) (he : starEach [e] X.env = (false, eval e X.env) :: starEach [] X.env := by rfl) (hpl : (backTo pos (starEach [] X.env)).any (·.1) = false := by rfl) : DE X (.Call (.Name "len" p) [e] [] pos) (fA lenW g) :=
  d_callB (call_len.or call_lenD) s_len hm boot_len ha hg (by decide) (by decide) he hpl
def absW (ws : List W) (h : Hh) : Option (W × Hh) := match ws with
  | [.dat (.int i)] => ok (.int (if i < 0 then -i else i)) h
  | _ => none
theorem s_abs : SemA (fun xs H Q => ∃ i, xs = [.int i] ∧ Q (.int (if i < 0 then -i else i)) H) absW := by
  intro M H h vs ws Q rep rv c
  unfold absW at c
  split at c
  · obtain ⟨v, rfl, r⟩ := rvs1 rv
    cases (show RD M H _ _ from r)
    exact ⟨_, rfl, c.here rep (.int _)⟩
  · exact c.no.elim
def intC (ws : List W) (h : Hh) : Option (W × Hh) := match ws with
  | [.dat (.int i)] => ok (.int i) h
  | [.dat (.bool b)] => ok (.int (if b = true then 1 else 0)) h
  | _ => none
theorem s_intC : SemA (fun xs H Q => (∃ i, xs = [.int i] ∧ Q (.int i) H) ∨ ∃ k, xs = [.bl k] ∧ Q (.int (if k then 1 else 0)) H) intC := by
  intro M H h vs ws Q rep rv c
  unfold intC at c
  split at c
  · obtain ⟨v, rfl, r⟩ := rvs1 rv
    cases (show RD M H _ _ from r)
    exact .inl ⟨_, rfl, c.here rep (.int _)⟩
  · obtain ⟨v, rfl, r⟩ := rvs1 rv
    cases (show RD M H _ _ from r)
    exact .inr ⟨_, rfl, c.here rep (.int _)⟩
  · exact c.no.elim
def maxW (ws : List W) (h : Hh) : Option (W × Hh) := match ws with
  | [.dat (.int i), .dat (.int j)] => ok (.int (if j > i then j else i)) h
  | _ => none
def minW (ws : List W) (h : Hh) : Option (W × Hh) := match ws with
  | [.dat (.int i), .dat (.int j)] => ok (.int (if j < i then j else i)) h
  | _ => none
theorem s_max : SemA (fun xs H Q => ∃ i j, xs = [.int i, .int j] ∧ Q (.int (if j > i then j else i)) H) maxW := by
  intro M H h vs ws Q rep rv c
  unfold maxW at c
  split at c
  · obtain ⟨v, v', rfl, r, r'⟩ := rvs2 rv
    cases (show RD M H _ _ from r)
    cases (show RD M H _ _ from r')
    exact ⟨_, _, rfl, c.here rep (.int _)⟩
  · exact c.no.elim
theorem s_min : SemA (fun xs H Q => ∃ i j, xs = [.int i, .int j] ∧ Q (.int (if j < i then j else i)) H) minW := by
  intro M H h vs ws Q rep rv c
  unfold minW at c
  split at c
  · obtain ⟨v, v', rfl, r, r'⟩ := rvs2 rv
    cases (show RD M H _ _ from r)
    cases (show RD M H _ _ from r')
    exact ⟨_, _, rfl, c.here rep (.int _)⟩
  · exact c.no.elim
def bools : List D → Option (List Bool)
  | [] => some []
  | .bool b :: ds => (bools ds).map (b :: ·)
  | _ :: _ => none
def intsD : List D → Option (List Int)
  | [] => some []
  | .int b :: ds => (intsD ds).map (b :: ·)
  | _ :: _ => none
theorem rds_bools {M : Mm} {H : Hp} : ∀ {vs : List V} {ds : List D} {bs : List Bool}, RDs M H vs ds → bools ds = some bs → vs = bs.map V.bl
  | _, _, _, .nil, e => by cases e; rfl
  | _, .bool b :: ds, _, .cons a t, e => by
    simp only [bools, Option.map_eq_some_iff] at e
    obtain ⟨bs', e1, rfl⟩ := e
    cases a
    rw [List.map_cons, ← rds_bools t e1]
  | _, .none :: ds, _, .cons a t, e => by cases e
  | _, .int _ :: ds, _, .cons a t, e => by cases e
  | _, .str _ :: ds, _, .cons a t, e => by cases e
  | _, .list _ :: ds, _, .cons a t, e => by cases e
  | _, .tuple _ :: ds, _, .cons a t, e => by cases e
  | _, .dict _ :: ds, _, .cons a t, e => by cases e
def lW {α : Type} (cv : List D → Option (List α)) (k : List α → D) (ws : List W) (h : Hh) : Option (W × Hh) := match ws with
  | [w] => match deref h w with
    | some (.list ds) => match cv ds with
      | some bs => ok (k bs) h
      | none => none
    | _ => none
  | _ => none
def allW := lW bools fun bs => .bool (bs.all id)
def anyW := lW bools fun bs => .bool (bs.any id)
def sumW := lW intsD fun bs => .int bs.sum
theorem s_lW {α : Type} {cv : List D → Option (List α)} {k : List α → D} {kv : List α → V} {em : α → V} (h1 : ∀ {M : Mm} {H : Hp} {vs : List V} {ds : List D} {bs : List α}, RDs M H vs ds → cv ds = some bs → vs = bs.map em) (h2 : ∀ M H bs, RD M H (kv bs) (k bs)) :
    SemA (fun vs H Q => ∃ (a : Addr) (bs : List α), vs = [V.ref a] ∧ SqL X.K H a (bs.map em) ∧ Q (kv bs) H) (lW cv k) := by
  intro M H h vs ws Q rep rv c
  unfold lW at c
  split at c
  · obtain ⟨v, rfl, r⟩ := rvs1 rv
    split at c
    · rename_i ds e
      obtain ⟨a, xs, rfl, ha, q⟩ := deref_rr rep r e
      split at c
      · rename_i bs e2
        have e3 := h1 q e2
        subst e3
        exact ⟨a, bs, rfl, .of ha, c.here rep (h2 _ _ _)⟩
      · exact c.no.elim
    · exact c.no.elim
  · exact c.no.elim
theorem s_all : SemA (rAll X.K) allW := s_lW rds_bools fun _ _ _ => .bl _
def tupleW (ws : List W) (h : Hh) : Option (W × Hh) := match ws with
  | [w] => match deref h w with
    | some (.list ds) => ok (.tuple ds) h
    | some (.tuple ds) => ok (.tuple ds) h
    | _ => none
  | _ => none
def rTupB (K : PySem.W.Frag) : List V → Hp → VK → Prop := fun xs H Q => ∃ p ys, xs = [.ref p] ∧ ((SqL K H p ys ∧ ∃ b : Bool, ∀ l o, H l = none → o.dict = none → Q (.ref l) (upd H l (bareO b o ys))) ∨ (SqT K H p ys ∧ Q (.ref p) H))
theorem call_tupB : CallR X (.type "tuple") (rTupB X.K) := by
  intro pins s σ H xs us Q I r h
  obtain ⟨p, ys, rfl, h⟩ := h
  obtain ⟨u, rfl, rx⟩ := vals1 r
  cases rx
  rcases h with ⟨hq, b, q⟩ | ⟨hq, q⟩
  · obtain ⟨its, r', pl, hz⟩ := I.list hq
    have hlen := r'.length
    apply call_tuple_list pl.isList _ (by simp only [List.size_toArray] <;> omega)
    intro h' kp
    have I1 : Inv X pins σ H { s with heap := h' } := I.kept (t' := s.toks) kp
    exact ⟨.ref h'.objs.size, _, I1.laid (t' := s.toks) (o := bareO b _ ys) (fun _ _ e => Heap.get?_push_of_some _ e) (Nat.le_refl _) (bare_ok b (Heap.get?_push_size _ rfl) fun G => ⟨hz, its, r', IsTup.new _ _⟩), rfl, q _ _ (I1.hok.fresh (Nat.le_refl _)) rfl⟩
  · obtain ⟨its, r', pl, hz⟩ := I.tuple hq
    exact call_tuple_same pl ⟨.ref p, H, I, rfl, q⟩
theorem s_tuple : SemA (rTupB X.K) tupleW := by
  intro M H h vs ws Q rep rv c
  unfold tupleW at c
  split at c
  · obtain ⟨v, rfl, r⟩ := rvs1 rv
    split at c
    · rename_i ds e
      obtain ⟨a, xs, rfl, ha, q⟩ := deref_rr rep r e
      exact ⟨a, xs, rfl, .inl ⟨.of ha, callD ds, fun l o nl ho => mkB_fin rep nl q ho c⟩⟩
    · rename_i ds e
      obtain ⟨a, xs, rfl, na, ha, q⟩ := rr_tup (deref_rr rep r e)
      exact ⟨a, xs, rfl, .inr ⟨ha.sq, c.here rep (.tup na ha q)⟩⟩
    · exact c.no.elim
  · exact c.no.elim
def listW (m : Bool) (ws : List W) (h : Hh) : Option (W × Hh) := match ws with
  | [w] => match deref h w with
    | some (.list ds) => mkL m ds h
    | some (.tuple ds) => mkL m ds h
    | _ => none
  | _ => none
theorem s_list (m : Bool) : SemA (fun xs H Q => ∃ p ys, xs = [.ref p] ∧ (SqL X.K H p ys ∨ SqT X.K H p ys) ∧ ∀ l, H l = none → Q (.ref l) (upd H l (.lst ys))) (listW m) := by
  intro M H h vs ws Q rep rv c
  unfold listW at c
  split at c
  · obtain ⟨v, rfl, r⟩ := rvs1 rv
    split at c
    · rename_i ds e
      obtain ⟨a, xs, rfl, ha, q⟩ := deref_rr rep r e
      exact ⟨a, xs, rfl, .inl (.of ha), fun l nl => mkL_fin rep nl q c⟩
    · rename_i ds e
      obtain ⟨a, xs, rfl, na, ha, q⟩ := rr_tup (deref_rr rep r e)
      exact ⟨a, xs, rfl, .inr ha.sq, fun l nl => mkL_fin rep nl q c⟩
    · exact c.no.elim
  · exact c.no.elim
def putK' (es : List (D × D)) (k : Key) (v : D) : List (D × D) := if (getK es k).isSome = true then es.map (fun e => if dKey e.1 = some k then (e.1, v) else e) else es ++ [(kP k, v)]
section
variable {M : Mm} {H : Hp}
theorem RDo.some_iff {o : Option V} {p : Option D} (r : RDo M H o p) : o.isSome = p.isSome := by
  cases o <;> cases p <;> first | rfl | exact r.elim
theorem RDk.snoc {k : Key} {v : V} {d : D} (q : RD M H v d) : ∀ {kvs : List (Key × V)} {es : List (D × D)}, RDk M H kvs es → RDk M H (kvs ++ [(k, v)]) (es ++ [(kP k, d)])
  | _, _, .nil => .cons q .nil
  | _, _, .cons a t => .cons a (RDk.snoc q t)
theorem RDk.repl {k : Key} {v : V} {d : D} (q : RD M H v d) : ∀ {kvs : List (Key × V)} {es : List (D × D)}, RDk M H kvs es → RDk M H (kvs.map fun kv => if kv.1 = k then (kv.1, v) else kv) (es.map fun e => if dKey e.1 = some k then (e.1, d) else e)
  | _, _, .nil => .nil
  | _, _, .cons (k := j) a t => by
    simp only [List.map_cons, dKey_kP, Option.some.injEq]
    by_cases e : j = k
    · rw [if_pos e, if_pos e]; exact .cons q (RDk.repl q t)
    · rw [if_neg e, if_neg e]; exact .cons a (RDk.repl q t)
theorem RDk.put {kvs : List (Key × V)} {es : List (D × D)} (r : RDk M H kvs es) (k : Key) {v : V} {d : D} (q : RD M H v d) : RDk M H (putK kvs k v) (putK' es k d) := by
  unfold putK putK'
  rw [valV_any, (r.val k).some_iff]
  split
  · exact r.repl q
  · exact r.snoc q
end
def mkK (m : Bool) (es : List (D × D)) (h : Hh) : Option (W × Hh) := if m = true then some (.ref h.length, h ++ [some (.dic es)]) else some (.dat (.dict es), h)
section
variable {X : Cx}
def tyN : D → String
  | .none => "NoneType"
  | .bool _ => "bool"
  | .int _ => "int"
  | .str _ => "str"
  | .list _ => "list"
  | .tuple _ => "tuple"
  | .dict _ => "dict"
def isN (n t : String) : Bool := decide (n = t) || (decide (n = "bool") && decide (t = "int"))
def isT1 (t : String) (d : D) : Bool := isN (tyN d) t
theorem kitN : ∀ n ∈ ["NoneType", "bool", "int", "str", "list", "tuple", "dict"], ∀ t ∈ ["bool", "int", "str", "list", "tuple", "dict"], kitB n t = some (isN n t) := by decide +kernel
theorem rr_ty {K : PySem.W.Frag} {M : Mm} {H : Hp} {v : V} : ∀ {d : D}, (∀ es, d = .dict ((.none, .none) :: es) → False) → RR M H v d → TyX K H v (.type (tyN d))
  | .none, _, r => by rw [rr_non r]; exact .base .non
  | .bool b, _, r => by rw [rr_bl r]; exact .base (.bl b)
  | .int b, _, r => by rw [rr_int r]; exact .base (.int b)
  | .str b, _, r => by rw [rr_str r]; exact .base (.str b)
  | .list b, _, ⟨a, xs, e, h, _⟩ => by rw [e]; exact .base (.lst h)
  | .tuple b, _, r => by
    obtain ⟨a, xs, e, _, h, _⟩ := rr_tup r
    rw [e]
    rcases h with ⟨_, h⟩ | ⟨_, o, _, h⟩
    · exact .base (.tup h)
    · exact .fTuple h
  | .dict b, _, .inl ⟨a, xs, e, h, _⟩ => by rw [e]; exact .base (.dK h)
  | .dict b, n0, .inr ⟨a, xs, es, e0, e, h, _⟩ => by subst e0; exact (n0 _ rfl).elim
theorem kit1 (t : String) (ht : t = "int" ∨ t = "bool" ∨ t = "str" ∨ t = "list" ∨ t = "tuple" ∨ t = "dict") (d : D) : kitB (tyN d) t = some (isT1 t d) := by
  refine kitN (tyN d) ?_ t ?_
  · cases d <;> simp [tyN]
  · rcases ht with rfl | rfl | rfl | rfl | rfl | rfl <;> simp
def isiW (ts : List String) (w : W) (h : Hh) : Option (W × Hh) := match deref h w with
  | some (.dict ((.none, .none) :: _)) => none
  | some d => bok (ts.any fun t => isT1 t d) h
  | none => none
def f1 (sem : W → Hh → Option (W × Hh)) (f : EM) : EM := fun ρ h => obnd (f ρ h) sem
theorem d_isi (hm : X.mg "isinstance" = none) {t : Str} {T : String} (hmt : X.mg t = none) (hv : bootBuiltins t = some (.type T)) (ht : T = "int" ∨ T = "bool" ∨ T = "str" ∨ T = "list" ∨ T = "tuple" ∨ T = "dict") {p pt pos : Pos} {e : Expr} {f : EM} (he : DE X e f)
    (hg : Gl X "isinstance" := by rfl) (hgt : Gl X t := by rfl) (hnt : t ≠ "__name__" := by decide) (hdt : (t == ("__debug__" : Str)) = false := by decide)
    (h1 : starEach [e, .Name t pt] X.env = (false, eval e X.env) :: starEach [.Name t pt] X.env := by rfl) (h2 : starEach [.Name t pt] X.env = (false, eval (.Name t pt) X.env) :: starEach [] X.env := by rfl)
    (hpl : (backTo pos (starEach [.Name t pt] X.env)).any (·.1) = false := by rfl) : DE X (.Call (.Name "isinstance" p) [e, .Name t pt] [] pos) (f1 (isiW [T]) f) :=
  (pe_callB call_isi hg hm boot_isinstance (pa_cons he (pa_cons (pe_bltn (v := .ty T) hgt hmt hv rfl hnt hdt) pa_nil h2) h1) (by decide) (by decide) h1 hpl).weak fun σ H Q => by
    rintro ⟨M, h, ρ, r, rs, c⟩
    obtain ⟨w, h1, e1, c1⟩ := Cont.bind (δ := Unit) c
    refine ⟨M, h, ρ, r, rs, w, h1, e1, fun M1 H1 v x1 r1 v1 => ?_⟩
    have c2 := c1 M1 H1 x1
    unfold isiW at c2
    split at c2
    · exact c2.no.elim
    · rename_i d n0 e
      have q := c2.here r1 (.bl _)
      refine ⟨v, .ty T, _, _, _, rfl, .ty T, (rr_ty n0 (deref_rr r1 v1 e)), kit_ty (kit1 T ht d), ?_⟩
      simpa using q
    · exact c2.no.elim
theorem d_isi2 (hm : X.mg "isinstance" = none) {t t' : Str} {T T' : String} (hmt : X.mg t = none) (hv : bootBuiltins t = some (.type T)) (ht : T = "int" ∨ T = "bool" ∨ T = "str" ∨ T = "list" ∨ T = "tuple" ∨ T = "dict") (hmt' : X.mg t' = none) (hv' : bootBuiltins t' = some (.type T')) (ht' : T' = "int" ∨ T' = "bool" ∨ T' = "str" ∨ T' = "list" ∨ T' = "tuple" ∨ T' = "dict") {p pt pt' ptt pos : Pos} {kt} {e : Expr} {f : EM} (he : DE X e f)
    (hg : Gl X "isinstance" := by rfl) (hgt : Gl X t := by rfl) (hnt : t ≠ "__name__" := by decide) (hdt : (t == ("__debug__" : Str)) = false := by decide) (hgt' : Gl X t' := by rfl) (hnt' : t' ≠ "__name__" := by decide) (hdt' : (t' == ("__debug__" : Str)) = false := by decide)
    (h1 : starEach [e, .Tuple [.Name t pt, .Name t' pt'] kt ptt] X.env = (false, eval e X.env) :: starEach [.Tuple [.Name t pt, .Name t' pt'] kt ptt] X.env := by rfl)
    (h2 : starEach [.Tuple [.Name t pt, .Name t' pt'] kt ptt] X.env = (false, eval (.Tuple [.Name t pt, .Name t' pt'] kt ptt) X.env) :: starEach [] X.env := by rfl)
    (h3 : starEach [.Name t pt, .Name t' pt'] X.env = (false, eval (.Name t pt) X.env) :: starEach [.Name t' pt'] X.env := by rfl) (h4 : starEach [.Name t' pt'] X.env = (false, eval (.Name t' pt') X.env) :: starEach [] X.env := by rfl)
    (hpl : (backTo pos (starEach [.Tuple [.Name t pt, .Name t' pt'] kt ptt] X.env)).any (·.1) = false := by rfl) : DE X (.Call (.Name "isinstance" p) [e, .Tuple [.Name t pt, .Name t' pt'] kt ptt] [] pos) (f1 (isiW [T, T']) f) :=
  (pe_callB call_isiT hg hm boot_isinstance (pa_cons he (pa_cons (pe_tup (pa_cons (pe_bltn (v := .ty T) hgt hmt hv rfl hnt hdt) (pa_cons (pe_bltn (v := .ty T') hgt' hmt' hv' rfl hnt' hdt') pa_nil h4) h3)) pa_nil h2) h1) (by decide) (by decide) h1 hpl).weak fun σ H Q => by
    rintro ⟨M, h, ρ, r, rs, c⟩
    obtain ⟨w, h1, e1, c1⟩ := Cont.bind (δ := Unit) c
    refine ⟨M, h, ρ, r, rs, w, h1, e1, fun M1 H1 v x1 r1 v1 => ⟨by show 2 ≤ sizeLine; decide, fun tp ntp => ?_⟩⟩
    have c2 := c1 M1 H1 x1
    unfold isiW at c2
    split at c2
    · exact c2.no.elim
    · rename_i d n0 e
      have r2 := r1.upd_new (o := .tup [.ty T, .ty T']) ntp
      have q := c2.fin (v := .bl _) (ext_new ntp) r2 (.bl _)
      refine ⟨v, tp, [.ty T, .ty T'], _, [.type T, .type T'], _, rfl, upd_same, .cons (.ty T) (.cons (.ty T') .nil), (rr_ty n0 (deref_rr r2 (v1.mono (ext_new ntp)) e)), ?_, q⟩
      refine kitAny_cons (kit_ty (kit1 T ht d)) (fun hb => kitAny_cons (r := isT1 T' d) (kit_ty (kit1 T' ht' d)) (fun hb' => by rw [hb']; rfl) (fun hb' => hb') |>.trans ?_) (fun hb => ?_)
      · simp [hb]
      · simp [hb]
    · exact c2.no.elim
end
end
end DL
set_option maxRecDepth 100000
set_option maxHeartbeats 4000000
namespace DL
open PySem PySem.Spec PyProof.Rows L2
variable [HW]
def flatD : D → Bool
  | .none => true
  | .bool _ => true
  | .int _ => true
  | .str _ => true
  | _ => false
theorem rd_flat {M : Mm} {H : Hp} {v : V} {d : D} (r : RD M H v d) (f : flatD d = true) : flatV v = true := by
  cases d <;> first | (cases r; rfl) | cases f
theorem rds_flat {M : Mm} {H : Hp} : ∀ {vs : List V} {ds : List D}, RDs M H vs ds → ds.all flatD = true → vs.all flatV = true
  | _, _, .nil, _ => rfl
  | _, _, .cons a t, f => by
    rw [List.all_cons, Bool.and_eq_true] at f
    rw [List.all_cons, rd_flat a f.1, rds_flat t f.2]; rfl
theorem eqV_eqv {M : Mm} {H : Hp} {x y : V} {a b : D} (ra : RD M H x a) (rb : RD M H y b) (fa : flatD a = true) (fb : flatD b = true) : eqV x y = PyData.eqv a b := by
  cases a <;> cases b <;> first | (exfalso; simp [flatD] at fa; done) | (exfalso; simp [flatD] at fb; done) | (cases ra; cases rb; simp [eqV, PyData.eqv])
theorem inV_eq {M : Mm} {H : Hp} {x : V} {d : D} (r : RD M H x d) (f : flatD d = true) : ∀ {vs : List V} {ds : List D}, RDs M H vs ds → ds.all flatD = true → inV x vs = ds.any fun y => PyData.eqv y d
  | _, _, .nil, _ => rfl
  | _, _, .cons a t, q => by
    rw [List.all_cons, Bool.and_eq_true] at q
    have ih := inV_eq r f t q.2
    unfold inV at ih ⊢
    rw [List.any_cons, List.any_cons, ih, eqV_eqv a r q.1 f]
def inW (neg : Bool) (x y : W) (h : Hh) : Option (W × Hh) := match x with
  | .dat d => match deref h y with
    | some (.dict es) => match getD es d with
      | some o => bok (if neg = true then !o.isSome else o.isSome) h
      | none => none
    | some (.list ds) => if (flatD d && ds.all flatD) = true then bok (if neg = true then !ds.any (fun z => PyData.eqv z d) else ds.any fun z => PyData.eqv z d) h
      else if (shp d && shp (.list ds)) = true then bok (if neg = true then !ds.any (fun z => PyData.eqv z d) else ds.any fun z => PyData.eqv z d) h else none
    | some (.tuple ds) => if (flatD d && ds.all flatD) = true then bok (if neg = true then !ds.any (fun z => PyData.eqv z d) else ds.any fun z => PyData.eqv z d) h else none
    | some (.str z) => match d with
      | .str ⟨⟨[c]⟩⟩ => bok (if neg = true then !decide (c ∈ z.cps.toList) else decide (c ∈ z.cps.toList)) h
      | _ => none
    | _ => none
  | _ => none
section
variable {X : Cx}
def rInDict (neg : Bool) : R2 := fun y x H Q => ∃ a o, x = .ref a ∧ DGetX H a y o ∧ Q (.bl (if neg = true then !o.isSome else o.isSome)) H
theorem op_inDict (hu : X.A.units + 1 < cLine) (W : HWX X) : OpR X (compareOp .In) (rInDict false) := by
  intro pins s σ H x y v u Q I rx ry q
  obtain ⟨a, o, rfl, g, q⟩ := q
  obtain rfl : u = Value.ref a := ry
  exact dx_in hu W I g rx fun s' I' => ⟨.bl _, H, I', rfl, q⟩
def rInA (K : PySem.W.Frag) (neg : Bool) : R2 := fun x y H Q => rIn K neg x y H Q ∨ rInDict neg x y H Q ∨
  (∃ d ds, Dp K H x d ∧ Dp K H y (.list ds) ∧ SeqAt.shaped d = true ∧ SeqAt.shaped (.list ds) = true ∧ Q (.bl (if neg = true then !ds.any (fun z => PyData.eqv z d) else ds.any fun z => PyData.eqv z d)) H) ∨
  ∃ c z, x = .str ⟨#[c]⟩ ∧ y = .str z ∧ Q (.bl (if neg = true then !decide (c ∈ z.cps.toList) else decide (c ∈ z.cps.toList))) H
theorem o_in {k : Nat} (hr : Room k X.A) (W : HWX X := by exact ⟨rfl, rfl⟩) : OpR X (compareOp .In) (rInA X.K false) :=
  op_in_seq.or ((op_inDict (hu_of hr) W).or ((op_inD (Nat.lt_of_le_of_lt (Nat.add_le_add_left (by decide) _) (show X.A.units + 200 < cLine by have := hr.un; omega))).or op_in_sign))
theorem s_in (neg : Bool) : Sem2 (rInA X.K neg) (inW neg) := by
  intro M H h x y wx wy Q rep rx ry c
  unfold inW at c
  split at c
  · rename_i d
    split at c
    · rename_i es e
      split at c
      · rename_i o eo
        obtain ⟨a, ov, rfl, g, ro⟩ := get_ok (deref_rr rep ry e) rx eo
        refine .inr (.inl ⟨a, ov, rfl, g, ?_⟩)
        rw [ro.some_iff]
        exact c.here rep (.bl _)
      · exact c.no.elim
    · rename_i ds e
      obtain ⟨a, xs, rfl, ha, q⟩ := deref_rr rep ry e
      split at c
      · rename_i hz
        rw [Bool.and_eq_true] at hz
        refine .inl ⟨a, xs, rfl, .inl (.of ha), rd_flat rx hz.1, rds_flat q hz.2, ?_⟩
        rw [inV_eq rx hz.1 q hz.2]
        cases neg <;> exact c.here rep (.bl _)
      · split at c
        · rename_i hz
          rw [Bool.and_eq_true] at hz
          exact .inr (.inr (.inl ⟨d, ds, RD.dp rx (SeqAt.canLay_of_shaped hz.1), rr_dp (deref_rr rep ry e) (SeqAt.canLay_of_shaped hz.2), hz.1, hz.2, c.here rep (.bl _)⟩))
        · exact c.no.elim
    · rename_i ds e
      obtain ⟨a, xs, rfl, _, ha, q⟩ := rr_tup (deref_rr rep ry e)
      split at c
      · rename_i hz
        rw [Bool.and_eq_true] at hz
        refine .inl ⟨a, xs, rfl, .inr ha.sq, rd_flat rx hz.1, rds_flat q hz.2, ?_⟩
        rw [inV_eq rx hz.1 q hz.2]
        cases neg <;> exact c.here rep (.bl _)
      · exact c.no.elim
    · rename_i z e
      obtain rfl := rr_str (deref_rr rep ry e)
      split at c
      · rename_i ch
        cases (show RD M H _ _ from rx)
        exact .inr (.inr (.inr ⟨ch, z, rfl, rfl, c.here rep (.bl _)⟩))
      · exact c.no.elim
    · exact c.no.elim
  · exact c.no.elim
theorem d_in' {k : Nat} (hr : Room k X.A) {a b : Expr} {pos : Pos} {f g : EM} (ha : DE X a f) (hb : DE X b g) (hm : behindInMarks .In b = false := by rfl) (W : HWX X := by exact ⟨rfl, rfl⟩) : DE X (.Compare a [.In] [b] pos) (f2 (inW false) f g) := d_cmp (o_in hr W) (s_in false) ha hb hm
def isL (w : W) (h : Hh) : Bool := match deref h w with
  | some (.list _) => true
  | _ => false
def fM (chk : W → Hh → Bool) (sem : W → List W → Hh → Option (W × Hh)) (f : EM) (g : AM) : EM := fun ρ h => obnd (f ρ h) fun w h1 => if chk w h1 = true then obnd (g ρ h1) fun ws h2 => sem w ws h2 else none
def SemM (r : V → List V → Hp → VK → Prop) (sem : W → List W → Hh → Option (W × Hh)) : Prop := ∀ (M : Mm) (H : Hp) (h : Hh) (x : V) (w : W) (vs : List V) (ws : List W) (Q : VK), Rep M H h → RV M H x w → RVs M H vs ws → Cont RV (sem w ws h) M H Q → r x vs H Q
theorem isL_ty {K : PySem.W.Frag} {M : Mm} {H : Hp} {h : Hh} {v : V} {w : W} (rep : Rep M H h) (r : RV M H v w) (e : isL w h = true) : tyV K "list" v H := by
  unfold isL at e
  split at e
  · rename_i ds q
    obtain ⟨a, xs, rfl, ha, _⟩ := deref_rr rep r q
    exact .inl ⟨rfl, _, .of ha⟩
  · cases e
theorem meth_imp {K : PySem.W.Frag} {r : V → List V → Hp → VK → Prop} {sem : W → List W → Hh → Option (W × Hh)} {f : EM} {g : AM} (hs : SemM r sem) : ∀ σ H Q, tE (fM isL sem f g) σ H Q → tBM K "list" r (tE f) (tA g) σ H Q := fun σ H Q => by
  rintro ⟨M, h, ρ, r, rs, c⟩
  obtain ⟨w, h1, e1, c1⟩ := Cont.bind (δ := Unit) c
  refine ⟨M, h, ρ, r, rs, w, h1, e1, fun M1 H1 v x1 r1 v1 => ?_⟩
  have c2 := c1 M1 H1 x1
  split at c2
  · rename_i hl
    refine ⟨isL_ty r1 v1 hl, M1, h1, ρ, r1, rs.mono x1, ?_⟩
    obtain ⟨w2, h2, e2, c3⟩ := Cont.bind (δ := Unit) c2
    exact ⟨w2, h2, e2, fun M2 H2 v2 x2 r2 q2 => hs M2 H2 h2 _ w _ w2 Q r2 (v1.mono x2) q2 (c3 M2 H2 x2)⟩
  · exact c2.no.elim
theorem meth0_imp {K : PySem.W.Frag} {r : V → List V → Hp → VK → Prop} {sem : W → List W → Hh → Option (W × Hh)} {f : EM} (hs : SemM r sem) : ∀ σ H Q, tE (fM isL sem f fNil) σ H Q → tBM0 K "list" r (tE f) σ H Q := fun σ H Q => by
  rintro ⟨M, h, ρ, r, rs, c⟩
  obtain ⟨w, h1, e1, c1⟩ := Cont.bind (δ := Unit) c
  refine ⟨M, h, ρ, r, rs, w, h1, e1, fun M1 H1 v x1 r1 v1 => ?_⟩
  have c2 := c1 M1 H1 x1
  split at c2
  · rename_i hl
    exact ⟨isL_ty r1 v1 hl, hs M1 H1 h1 _ w _ [] Q r1 v1 .nil c2⟩
  · exact c2.no.elim
def lstAt (h : Hh) (n : Nat) : Option (List D) := match h[n]? with
  | some (some (.lst ds)) => some ds
  | _ => none
theorem lstAt_ok {M : Mm} {H : Hp} {h : Hh} {n : Nat} {ds : List D} {a : Addr} (rep : Rep M H h) (e : lstAt h n = some ds) (ea : M.m[n]? = some (some a)) : ∃ xs, H a = some (.lst xs) ∧ RDs M H xs ds := by
  obtain ⟨o, ho, ro⟩ := rep.at_ n a ea
  unfold lstAt at e
  rw [ho] at e
  cases o with
  | lst ds' => cases e; exact ro
  | dic _ => cases e
  | dit _ => cases e
  | tab _ _ => cases e
  | ins _ _ => cases e
  | obj _ _ => cases e
  | los _ => cases e
def setL (h : Hh) (n : Nat) (ds : List D) (r : D) : Option (W × Hh) := some (.dat r, h.set n (some (.lst ds)))
theorem setL_fin {M : Mm} {H : Hp} {h : Hh} {n : Nat} {a : Addr} {ds : List D} {d : D} {ys : List V} {v : V} {Q : VK} (rep : Rep M H h) (ea : M.m[n]? = some (some a)) (q : RDs M H ys ds) (rv : RD M H v d) (c : Cont RV (setL h n ds d) M H Q) : Q v (upd H a (.lst ys)) :=
  c.fin (ext_set ea) (rep.set ea ⟨ys, upd_same, q.mono (ext_set ea).ext⟩) (rv.mono (ext_set ea).ext)
def appendW (w : W) (ws : List W) (h : Hh) : Option (W × Hh) := match w, ws with
  | .ref n, [.dat d] => match lstAt h n with
    | some ds => if ds.length < sizeLine then setL h n (ds ++ [d]) .none else none
    | none => none
  | _, _ => none
theorem s_append : SemM rAppend appendW := by
  intro M H h x w vs ws Q rep rx rv c
  unfold appendW at c
  split at c
  · rename_i n d
    obtain ⟨a, ea, rfl⟩ := rx
    obtain ⟨v, rfl, r⟩ := rvs1 rv
    split at c
    · rename_i ds e
      obtain ⟨xs, ha, q⟩ := lstAt_ok rep e ea
      split at c
      · rename_i hz
        exact ⟨a, xs, v, rfl, rfl, ha, by rw [q.length]; exact hz, setL_fin rep ea (q.app (.cons r .nil)) .non c⟩
      · exact c.no.elim
    · exact c.no.elim
  · exact c.no.elim
def insertW (w : W) (ws : List W) (h : Hh) : Option (W × Hh) := match w, ws with
  | .ref n, [.dat (.int i), .dat d] => match lstAt h n with
    | some ds => if ds.length < sizeLine ∧ 0 ≤ i ∧ i < 1000000 then setL h n (ds.take i.toNat ++ [d] ++ ds.drop i.toNat) .none else none
    | none => none
  | _, _ => none
theorem s_insert : SemM (fun x vs H Q => ∃ (l : Addr) (xs : List V) (i : Int) (y : V), x = .ref l ∧ vs = [.int i, y] ∧ H l = some (.lst xs) ∧ xs.length < sizeLine ∧ 0 ≤ i ∧ i < 2 ^ 63 ∧ Q .non (upd H l (.lst (xs.take i.toNat ++ [y] ++ xs.drop i.toNat)))) insertW := by
  intro M H h x w vs ws Q rep rx rv c
  unfold insertW at c
  split at c
  · rename_i n i d
    obtain ⟨a, ea, rfl⟩ := rx
    obtain ⟨v, v', rfl, r, r'⟩ := rvs2 rv
    cases (show RD M H _ _ from r)
    split at c
    · rename_i ds e
      obtain ⟨xs, ha, q⟩ := lstAt_ok rep e ea
      split at c
      · rename_i hz
        exact ⟨a, xs, i, v', rfl, rfl, ha, by rw [q.length]; exact hz.1, hz.2.1, by omega, setL_fin rep ea (((q.take _).app (.cons r' .nil)).app (q.drop _)) .non c⟩
      · exact c.no.elim
    · exact c.no.elim
  · exact c.no.elim
def popAtW (w : W) (ws : List W) (h : Hh) : Option (W × Hh) := match w, ws with
  | .ref n, [.dat (.int i)] => match lstAt h n with
    | some ds => if 0 ≤ i ∧ i < 1000000 then match ds[i.toNat]? with
        | some d => setL h n (ds.eraseIdx i.toNat) d
        | none => none
      else none
    | none => none
  | _, _ => none
theorem s_popAt : SemM rPopAt popAtW := by
  intro M H h x w vs ws Q rep rx rv c
  unfold popAtW at c
  split at c
  · rename_i n i
    obtain ⟨a, ea, rfl⟩ := rx
    obtain ⟨v, rfl, r⟩ := rvs1 rv
    cases (show RD M H _ _ from r)
    split at c
    · rename_i ds e
      obtain ⟨xs, ha, q⟩ := lstAt_ok rep e ea
      split at c
      · rename_i hz
        split at c
        · rename_i d ed
          obtain ⟨y, ey, ry⟩ := q.get ed
          have hlt : i < xs.length := by have := lt_of_get ey; omega
          exact ⟨a, xs, i, i.toNat, y, rfl, rfl, ha, by omega, by omega, seqIndex_of hz.1 hlt, ey, setL_fin rep ea (q.erase _) ry c⟩
        · exact c.no.elim
      · exact c.no.elim
    · exact c.no.elim
  · exact c.no.elim
def reverseW (w : W) (ws : List W) (h : Hh) : Option (W × Hh) := match w, ws with
  | .ref n, [] => match lstAt h n with
    | some ds => setL h n ds.reverse .none
    | none => none
  | _, _ => none
theorem s_reverse : SemM rReverse reverseW := by
  intro M H h x w vs ws Q rep rx rv c
  unfold reverseW at c
  split at c
  · rename_i n
    obtain ⟨a, ea, rfl⟩ := rx
    cases rv
    split at c
    · rename_i ds e
      obtain ⟨xs, ha, q⟩ := lstAt_ok rep e ea
      exact ⟨a, xs, rfl, rfl, ha, setL_fin rep ea q.rev .non c⟩
    · exact c.no.elim
  · exact c.no.elim
end
end DL
set_option maxRecDepth 100000
set_option maxHeartbeats 4000000
namespace DL
open PySem PySem.Spec PyProof.Rows L2
variable [HW]
abbrev TM := W → Env → Hh → Option Env
abbrev TMs := List D → Env → Hh → Option Env
def tGd (ts : List Nat) (g : TM) : TG := fun v σ H Q => ∃ M h ρ w ρ', Rep M H h ∧ RS M H ρ σ ∧ RV M H v w ∧ g w ρ h = some ρ' ∧ ∀ σ' : L2.St, RS M H ρ' σ' → σ'.length = σ.length → (∀ j, j ∉ ts → σ'[j]? = σ[j]?) → Q σ' H
def tGds (ts : List Nat) (g : TMs) : TGs := fun vs σ H Q => ∃ M h ρ ds ρ', Rep M H h ∧ RS M H ρ σ ∧ RDs M H vs ds ∧ g ds ρ h = some ρ' ∧ ∀ σ' : L2.St, RS M H ρ' σ' → σ'.length = σ.length → (∀ j, j ∉ ts → σ'[j]? = σ[j]?) → Q σ' H
abbrev DG (X : Cx) (tg : Expr) (ts : List Nat) (g : TM) : Prop := PG X tg (tGd ts g)
abbrev DGs (X : Cx) (tgs : List Expr) (ts : List Nat) (g : TMs) : Prop := PGs X tgs (tGds ts g)
theorem _root_.L2.PGs.weak {X : Cx} {e : List Expr} {t t' : TGs} (h : PGs X e t) (i : ∀ v σ H Q, t' v σ H Q → t v σ H Q) : PGs X e t' := ⟨fun pins s σ H v u Q I r q => h.run pins s σ H v u Q I r (i v σ H Q q)⟩
def gN (i : Nat) : TM := fun w ρ _ => some (ρ.set i (some w))
def gE : TMs := fun ds ρ _ => match ds with
  | [] => some ρ
  | _ => none
def gC (g : TM) (k : TMs) : TMs := fun ds ρ h => match ds with
  | d :: ds => match g (.dat d) ρ h with
    | some ρ' => k ds ρ' h
    | none => none
  | [] => none
def gT (n : Nat) (k : TMs) : TM := fun w ρ h => match deref h w with
  | some (.tuple ds) => if ds.length = n then k ds ρ h else none
  | some (.list ds) => if ds.length = n then k ds ρ h else none
  | _ => none
section
variable {X : Cx}
theorem dg_name (i : Nat) {x : Str} {pos : Pos} (h : PG X (.Name x pos) (gName i)) : DG X (.Name x pos) [i] (gN i) := h.weak fun v σ H Q => by
  rintro ⟨M, h, ρ, w, ρ', r, rs, rv, e, q⟩
  cases e
  exact q _ (rs.set rv) (by simp) fun j hj => List.getElem?_set_ne (fun z => hj (by simp [z]))
theorem dgs_nil : DGs X [] [] gE := pgs_nil.weak fun v σ H Q => by
  rintro ⟨M, h, ρ, ds, ρ', r, rs, rv, e, q⟩
  unfold gE at e
  split at e
  · cases e; cases rv; exact ⟨rfl, q σ rs rfl fun _ _ => rfl⟩
  · cases e
theorem dgs_cons {tg : Expr} {tgs : List Expr} {ts ts' : List Nat} {g : TM} {k : TMs} (h1 : DG X tg ts g) (h2 : DGs X tgs ts' k) (hs : (assignEach (tg :: tgs) X.env).map (·.2) = assign tg X.env :: (assignEach tgs X.env).map (·.2) := by rfl) : DGs X (tg :: tgs) (ts ++ ts') (gC g k) :=
  (pgs_cons h1 h2 hs).weak fun v σ H Q => by
    rintro ⟨M, h, ρ, ds, ρ', r, rs, rv, e, q⟩
    unfold gC at e
    split at e
    · rename_i d ds'
      split at e
      · rename_i ρ1 e1
        cases rv with
        | cons a t =>
          refine ⟨_, _, rfl, M, h, ρ, .dat d, ρ1, r, rs, a, e1, fun σ1 rs1 l1 o1 => ⟨M, h, ρ1, ds', ρ', r, rs1, t, e, fun σ2 rs2 l2 o2 => q σ2 rs2 (l2.trans l1) fun j hj => ?_⟩⟩
          rw [o2 j (fun z => hj (List.mem_append_right _ z)), o1 j (fun z => hj (List.mem_append_left _ z))]
      · cases e
    · cases e
theorem _root_.L2.PG.or {tg : Expr} {t t' : TG} (h : PG X tg t) (h' : PG X tg t') : PG X tg (fun v σ H Q => t v σ H Q ∨ t' v σ H Q) := ⟨fun pins s σ H v u Q I r q => q.elim (h.run pins s σ H v u Q I r) (h'.run pins s σ H v u Q I r)⟩
theorem dg_tup {tgs : List Expr} {k : Nat} {pos : Pos} {ts : List Nat} {g : TMs} {n : Nat} (hc : X.calm = true) (h : DGs X tgs ts g) (hn : (assignEach tgs X.env).length = n := by rfl) (hst : (assignEach tgs X.env).findIdx? (·.1) = none := by rfl) : DG X (.Tuple tgs k pos) ts (gT n g) :=
  ((pg_tup hc h hn hst).or (pg_unl hc h hn hst)).weak fun v σ H Q => by
    rintro ⟨M, h, ρ, w, ρ', r, rs, rv, e, q⟩
    unfold gT at e
    split at e
    · rename_i ds ed
      obtain ⟨a, xs, rfl, _, ha, qa⟩ := rr_tup (deref_rr r rv ed)
      split at e
      · rename_i hz
        exact .inl ⟨a, xs, rfl, ha.sq, by rw [qa.length]; exact hz, M, h, ρ, ds, ρ', r, rs, qa, e, q⟩
      · cases e
    · rename_i ds ed
      obtain ⟨a, xs, rfl, ha, qa⟩ := deref_rr r rv ed
      split at e
      · rename_i hz
        exact .inr ⟨a, xs, rfl, .of ha, by rw [qa.length]; exact hz, M, h, ρ, ds, ρ', r, rs, qa, e, q⟩
      · cases e
    · cases e
end
theorem Rep.grow {M : Mm} {H H' : Hp} {h : Hh} (r : Rep M H h) (s : Same H H') : Rep M H' h ∧ ExtE M M H H' := by
  have x : ExtE M M H H' := ⟨rfl, fun a o e => ⟨o, s a o e⟩, fun a o e _ => s a o e, fun _ m => .inl m, Nat.le_refl _, fun _ _ => rfl⟩
  refine ⟨⟨fun a m => ?_, r.len, r.inj, fun i a e => ?_, r.dead⟩, x⟩
  · obtain ⟨h1, o, e, ht⟩ := r.us a m
    exact ⟨h1, o, s a o e, ht⟩
  · obtain ⟨u, hu, ro⟩ := r.at_ i a e
    obtain ⟨z, hz⟩ := ro.some_
    exact ⟨u, hu, ro.move x.ext (by rw [hz]; exact s a z hz)⟩
theorem new_out {M : Mm} {H : Hp} (tr : ∀ a, M.Has a → ∃ o, H a = some o ∧ tpO o = false) {T : Addr} (n : H T = none) : ¬ M.Has T := fun z => by
  obtain ⟨o, e, _⟩ := tr T z
  rw [n] at e; cases e
theorem grow_ext {M : Mm} {H H' : Hp} (s : Same H H') : Ext M M H H' := ⟨fun _ m => .inl m, fun a o e => ⟨o, s a o e⟩, fun a o e _ => s a o e, fun _ m => .inl m, Nat.le_refl _, fun _ _ => .inl rfl⟩
def ItD (M : Mm) (H : Hp) (J : It) (ds : List D) : Prop := ∀ M1 H1, Ext M M1 H H1 → (∀ a, M1.Has a → ∃ o, H1 a = some o ∧ tpO o = false) → (∀ (i : Nat) (d : D), ds[i]? = some d → J.go i H1 ∧ ∀ x H2, J.yld i H1 x H2 → Same H1 H2 ∧ RD M1 H2 x d) ∧ J.stop ds.length H1
abbrev IM := Env → Hh → Option (List D × Hh)
def tI (g : IM) : TI := fun σ H R => ∃ M h ρ ds h', Rep M H h ∧ RS M H ρ σ ∧ g ρ h = some (ds, h') ∧ ∀ M' H' J, ExtE M M' H H' → Rep M' H' h' → ItD M' H' J ds → R J H'
abbrev DI (X : Cx) (tg it : Expr) (g : IM) : Prop := PI X tg it (tI g)
theorem _root_.L2.PI.or {X : Cx} {tg e : Expr} {t t' : TI} (h : PI X tg e t) (h' : PI X tg e t') : PI X tg e (fun σ H R => t σ H R ∨ t' σ H R) := ⟨fun pins s σ H R I q => q.elim (h.run pins s σ H R I) (h'.run pins s σ H R I)⟩
theorem same_refl' {H : Hp} : Same H H := fun _ _ e => e
theorem same_new {H : Hp} {p : Addr} {o : HO} (n : H p = none) : Same H (upd H p o) := fun b x e => by rw [upd_ne (ne_of_none e n)]; exact e
theorem itd_list {K : PySem.W.Frag} {M : Mm} {H : Hp} {a : Addr} {xs : List V} {ds : List D} (n : ¬ M.Has a) (ha : H a = some (.lst xs)) (q : RDs M H xs ds) : ItD M H (Itl K a) ds := fun M1 H1 x tr => by
  have ha1 := x.st n ha
  have q1 := q.mono x
  refine ⟨fun i d e => ?_, ⟨xs, .of ha1, by rw [q.length]; exact Nat.le_refl _⟩⟩
  obtain ⟨v, ev, rv⟩ := q1.get e
  refine ⟨⟨xs, v, .of ha1, ev⟩, fun y H2 hy => ?_⟩
  obtain ⟨e2, hy⟩ := hy
  subst e2
  have := hy xs (.of ha1)
  rw [ev] at this; cases this
  exact ⟨same_refl', rv⟩
theorem itd_tup {K : PySem.W.Frag} {M : Mm} {H : Hp} {a : Addr} {xs : List V} {ds : List D} (n : ¬ M.Has a) (ha : TupAt H a xs ds) (q : RDs M H xs ds) : ItD M H (Itt K a) ds := fun M1 H1 x tr => by
  have ha1 := (ha.to fun _ z => x.st n z).sq (K := K)
  have q1 := q.mono x
  refine ⟨fun i d e => ?_, ⟨xs, ha1, by rw [q.length]; exact Nat.le_refl _⟩⟩
  obtain ⟨v, ev, rv⟩ := q1.get e
  refine ⟨⟨xs, v, ha1, ev⟩, fun y H2 hy => ?_⟩
  obtain ⟨e2, hy⟩ := hy
  subst e2
  have := hy xs ha1
  rw [ev] at this; cases this
  exact ⟨same_refl', rv⟩
def seqI (f : EM) : IM := fun ρ h => obnd (f ρ h) fun w h1 => match w with
  | .dat (.list ds) => some (ds, h1)
  | .dat (.tuple ds) => some (ds, h1)
  | _ => none
section
variable {X : Cx} {tg : Expr}
theorem di_seq {e : Expr} {f : EM} (he : DE X e f) : DI X tg e (seqI f) := ((pi_list he).or (pi_tup he)).weak fun σ H R => by
  rintro ⟨M, h, ρ, ds, h', r, rs, e, q⟩
  unfold seqI at e
  cases ef : f ρ h with
  | none => rw [ef] at e; cases e
  | some p =>
    obtain ⟨w, h1⟩ := p
    rw [ef] at e
    simp only [obnd_some] at e
    split at e
    · cases e
      refine .inl ⟨M, h, ρ, r, rs, _, _, ef, fun M1 H1 v x1 r1 v1 => ?_⟩
      cases (show RD M1 H1 v _ from v1) with
      | lst n ha qa => exact ⟨_, rfl, ⟨_, .of ha⟩, q M1 H1 _ x1 r1 (itd_list n ha qa)⟩
    · cases e
      refine .inr ⟨M, h, ρ, r, rs, _, _, ef, fun M1 H1 v x1 r1 v1 => ?_⟩
      cases (show RD M1 H1 v _ from v1) with
      | tup n ha qa => exact ⟨_, rfl, ⟨_, ha.sq⟩, q M1 H1 _ x1 r1 (itd_tup n ha qa)⟩
    · cases e
def rngD (lo : Int) (n : Nat) : List D := (List.range n).map fun (i : Nat) => .int (lo + (i : Int))
theorem rngD_get {lo : Int} {n i : Nat} {d : D} (e : (rngD lo n)[i]? = some d) : i < n ∧ d = .int (lo + i) := by
  unfold rngD at e
  rw [List.getElem?_map] at e
  cases q : (List.range n)[i]? with
  | none => rw [q] at e; cases e
  | some j =>
    rw [q] at e
    obtain ⟨h1, h2⟩ := List.getElem?_eq_some_iff.mp q
    rw [List.length_range] at h1
    rw [List.getElem_range] at h2
    subst h2
    exact ⟨h1, by simpa using e.symm⟩
theorem itd_rng {M : Mm} {H : Hp} {lo : Int} {n : Nat} : ItD M H (Itr lo n) (rngD lo n) := fun M1 H1 x tr => by
  refine ⟨fun i d e => ?_, ?_⟩
  · obtain ⟨h1, rfl⟩ := rngD_get e
    exact ⟨h1, fun y H2 hy => by obtain ⟨e1, e2⟩ := hy; subst e1 e2; exact ⟨same_refl', .int _⟩⟩
  · show n ≤ _
    simp [rngD]
def rng1I (g : AM) : IM := fun ρ h => obnd (g ρ h) fun ws h1 => match ws with
  | [.dat (.int j)] => if -1000000000 ≤ j ∧ j ≤ 1000000000 then some (rngD 0 j.toNat, h1) else none
  | _ => none
def rng2I (g : AM) : IM := fun ρ h => obnd (g ρ h) fun ws h1 => match ws with
  | [.dat (.int i), .dat (.int j)] => if -1000000000 ≤ i ∧ i ≤ 1000000000 ∧ -1000000000 ≤ j ∧ j ≤ 1000000000 then some (rngD i (j - i).toNat, h1) else none
  | _ => none
theorem di_rng1 (hm : X.mg "range" = none) {a : Expr} {p pos : Pos} {g : AM} (ha : DA X [a] g) (hg : Gl X "range" := by rfl) (hs : starEach [a] X.env = [(false, eval a X.env)] := by rfl) : DI X tg (.Call (.Name "range" p) [a] [] pos) (rng1I g) := (pi_range1 hg hm ha hs).weak fun σ H R => by
  rintro ⟨M, h, ρ, ds, h', r, rs, e, q⟩
  unfold rng1I at e
  cases ef : g ρ h with
  | none => rw [ef] at e; cases e
  | some p =>
    obtain ⟨ws, h1⟩ := p
    rw [ef] at e
    simp only [obnd_some] at e
    split at e
    · split at e
      · rename_i hz
        cases e
        refine ⟨M, h, ρ, r, rs, _, _, ef, fun M1 H1 v x1 r1 v1 => ?_⟩
        obtain ⟨v, rfl, rv⟩ := rvs1 v1
        cases (show RD M1 H1 v _ from rv)
        exact ⟨_, rfl, by omega, by omega, q M1 H1 _ x1 r1 itd_rng⟩
      · cases e
    · cases e
def enumD : Nat → List D → List D
  | _, [] => []
  | i, d :: ds => .tuple [.int (i : Int), d] :: enumD (i + 1) ds
def zipD : List D → List D → List D
  | x :: xs, y :: ys => .tuple [x, y] :: zipD xs ys
  | _, _ => []
theorem zipD_get : ∀ {xs ys : List D} {i : Nat} {d : D}, (zipD xs ys)[i]? = some d → ∃ x y, xs[i]? = some x ∧ ys[i]? = some y ∧ d = .tuple [x, y]
  | [], _, _, _, e => by simp [zipD] at e
  | _ :: _, [], _, _, e => by simp [zipD] at e
  | x :: xs, y :: ys, 0, d, e => by simp [zipD] at e; exact ⟨x, y, rfl, rfl, e.symm⟩
  | x :: xs, y :: ys, i + 1, d, e => by
    obtain ⟨a, b, h1, h2, h3⟩ := zipD_get (xs := xs) (ys := ys) (i := i) (d := d) (by simpa [zipD] using e)
    exact ⟨a, b, by simpa using h1, by simpa using h2, h3⟩
def notCall : D → Bool
  | .tuple l => !callD l
  | _ => true
def zipOk (xs ys : List D) : Bool := (zipD xs ys).all notCall
theorem zipOk_get {xs ys : List D} {i : Nat} {l : List D} (ok : zipOk xs ys = true) (e : (zipD xs ys)[i]? = some (.tuple l)) : callD l = false := by
  have := List.all_eq_true.mp ok _ (List.mem_of_getElem? e)
  simpa [notCall] using this
theorem zipD_len : ∀ (xs ys : List D), (zipD xs ys).length = min xs.length ys.length
  | [], _ => by simp [zipD]
  | _ :: _, [] => by simp [zipD]
  | x :: xs, y :: ys => by simp only [zipD, List.length_cons, zipD_len xs ys]; omega
theorem itd_zip {K : PySem.W.Frag} {M : Mm} {H : Hp} {a b : Addr} {xs ys : List V} {ds es : List D} (n : ¬ M.Has a) (ha : H a = some (.lst xs)) (q : RDs M H xs ds) (n' : ¬ M.Has b) (hb : H b = some (.lst ys)) (q' : RDs M H ys es) (ok : zipOk ds es = true) : ItD M H (Itz K a b) (zipD ds es) := fun M1 H1 x tr => by
  have ha1 := x.st n ha
  have hb1 := x.st n' hb
  refine ⟨fun i d e => ?_, ⟨xs, ys, .of ha1, .of hb1, by rw [q.length, q'.length, zipD_len]; omega⟩⟩
  obtain ⟨d1, d2, e1, e2, rfl⟩ := zipD_get e
  obtain ⟨v, ev, rv⟩ := (q.mono x).get e1
  obtain ⟨v', ev', rv'⟩ := (q'.mono x).get e2
  refine ⟨⟨xs, ys, v, v', .of ha1, .of hb1, ev, ev'⟩, fun y H2 hy => ?_⟩
  obtain ⟨T, z, z', rfl, nT, rfl, hz, hz'⟩ := hy
  have t1 := hz xs (.of ha1)
  rw [ev] at t1; cases t1
  have t2 := hz' ys (.of hb1)
  rw [ev'] at t2; cases t2
  exact ⟨same_new nT, .tup (fun z => new_out tr nT z) (.inl ⟨zipOk_get ok e, upd_same⟩) (.cons (rv.mono (grow_ext (same_new nT))) (.cons (rv'.mono (grow_ext (same_new nT))) .nil))⟩
theorem itd_zipT {K : PySem.W.Frag} {M : Mm} {H : Hp} {a b : Addr} {xs ys : List V} {ds es : List D} (n : ¬ M.Has a) (ha : TupAt H a xs ds) (q : RDs M H xs ds) (n' : ¬ M.Has b) (hb : TupAt H b ys es) (q' : RDs M H ys es) (ok : zipOk ds es = true) : ItD M H (RZ.ItzT K a b) (zipD ds es) := fun M1 H1 x tr => by
  have ha1 := (ha.to fun _ z => x.st n z).sq (K := K)
  have hb1 := (hb.to fun _ z => x.st n' z).sq (K := K)
  refine ⟨fun i d e => ?_, ⟨xs, ys, ha1, hb1, by rw [q.length, q'.length, zipD_len]; omega⟩⟩
  obtain ⟨d1, d2, e1, e2, rfl⟩ := zipD_get e
  obtain ⟨v, ev, rv⟩ := (q.mono x).get e1
  obtain ⟨v', ev', rv'⟩ := (q'.mono x).get e2
  refine ⟨⟨xs, ys, v, v', ha1, hb1, ev, ev'⟩, fun y H2 hy => ?_⟩
  obtain ⟨T, z, z', rfl, nT, rfl, hz, hz'⟩ := hy
  have t1 := hz xs ha1
  rw [ev] at t1; cases t1
  have t2 := hz' ys hb1
  rw [ev'] at t2; cases t2
  exact ⟨same_new nT, .tup (fun z => new_out tr nT z) (.inl ⟨zipOk_get ok e, upd_same⟩) (.cons (rv.mono (grow_ext (same_new nT))) (.cons (rv'.mono (grow_ext (same_new nT))) .nil))⟩
def zipI (g : AM) : IM := fun ρ h => obnd (g ρ h) fun ws h1 => match ws with
  | [.dat (.list ds), .dat (.list es)] => if zipOk ds es = true then some (zipD ds es, h1) else none
  | [.dat (.tuple ds), .dat (.tuple es)] => if zipOk ds es = true then some (zipD ds es, h1) else none
  | _ => none
theorem di_zip (hm : X.mg "zip" = none) {e e2 : Expr} {elts : List Expr} {kk : Nat} {p pos tpos : Pos} {g : AM} (ha : DA X [e, e2] g) (hg : Gl X "zip" := by rfl) (hs : starEach [e, e2] X.env = (false, eval e X.env) :: starEach [e2] X.env := by rfl) (hpl : (backTo pos (starEach [e2] X.env)).any (·.1) = false := by rfl) :
    DI X (.Tuple elts kk tpos) (.Call (.Name "zip" p) [e, e2] [] pos) (zipI g) := (RZ.pi_zipA hg hm ha hs hpl).weak fun σ H R => by
  rintro ⟨M, h, ρ, ds, h', r, rs, e, q⟩
  unfold zipI at e
  cases ef : g ρ h with
  | none => rw [ef] at e; cases e
  | some p =>
    obtain ⟨ws, h1⟩ := p
    rw [ef] at e
    simp only [obnd_some] at e
    split at e
    · split at e
      rotate_left
      · cases e
      rename_i ok
      cases e
      refine ⟨M, h, ρ, r, rs, _, _, ef, fun M1 H1 v x1 r1 v1 => ?_⟩
      obtain ⟨v, v', rfl, rv, rv'⟩ := rvs2 v1
      cases (show RD M1 H1 v _ from rv) with
      | lst n ha qa =>
        cases (show RD M1 H1 v' _ from rv') with
        | lst n' hb qb => exact ⟨_, _, _, _, rfl, .inl ⟨.of ha, .of hb, q M1 H1 _ x1 r1 (itd_zip n ha qa n' hb qb ok)⟩⟩
    · split at e
      rotate_left
      · cases e
      rename_i ok
      cases e
      refine ⟨M, h, ρ, r, rs, _, _, ef, fun M1 H1 v x1 r1 v1 => ?_⟩
      obtain ⟨v, v', rfl, rv, rv'⟩ := rvs2 v1
      cases (show RD M1 H1 v _ from rv) with
      | tup n ha qa =>
        cases (show RD M1 H1 v' _ from rv') with
        | tup n' hb qb => exact ⟨_, _, _, _, rfl, .inr ⟨ha.sq, hb.sq, q M1 H1 _ x1 r1 (itd_zipT n ha qa n' hb qb ok)⟩⟩
    · cases e
def signs (z : Str) : List D := z.cps.toList.map fun c => .str ⟨#[c]⟩
def strI (f : EM) : IM := fun ρ h => obnd (f ρ h) fun w h1 => match w with
  | .dat (.str z) => some (signs z, h1)
  | _ => none
theorem itd_str {M : Mm} {H : Hp} {z : Str} : ItD M H (Its z) (signs z) := fun M1 H1 x tr => by
  refine ⟨fun i d e => ?_, by show z.cps.size ≤ _; simp [signs]⟩
  unfold signs at e
  rw [List.getElem?_map] at e
  cases q : z.cps.toList[i]? with
  | none => rw [q] at e; cases e
  | some c =>
    rw [q] at e
    have q' : z.cps[i]? = some c := by simpa using q
    have hi : i < z.cps.size := by simpa using lt_of_get q
    refine ⟨hi, fun y H2 hy => ?_⟩
    obtain ⟨e2, c', ec, rfl⟩ := hy
    subst e2
    rw [q'] at ec; cases ec
    have e' : PyData.str ⟨#[c]⟩ = d := by simpa using e
    subst e'
    exact ⟨same_refl', .str _⟩
theorem di_str {e : Expr} {f : EM} (he : DE X e f) : DI X tg e (strI f) := (pi_str he).weak fun σ H R => by
  rintro ⟨M, h, ρ, ds, h', r, rs, e, q⟩
  unfold strI at e
  cases ef : f ρ h with
  | none => rw [ef] at e; cases e
  | some p =>
    obtain ⟨w, h1⟩ := p
    rw [ef] at e
    simp only [obnd_some] at e
    split at e
    · cases e
      refine ⟨M, h, ρ, r, rs, _, _, ef, fun M1 H1 v x1 r1 v1 => ?_⟩
      cases (show RD M1 H1 v _ from v1)
      exact ⟨_, rfl, q M1 H1 _ x1 r1 itd_str⟩
    · cases e
end
end DL
set_option maxRecDepth 100000
set_option maxHeartbeats 4000000
namespace DL
open PySem PySem.Spec PyProof.Rows L2
variable [HW]
def wipeE (ρ : Env) : List Nat → Env
  | [] => ρ
  | v :: vs => (wipeE ρ vs).set v none
theorem RS.none_at {M : Mm} {H : Hp} {ρ : Env} {σ : L2.St} (r : RS M H ρ σ) (i : Nat) : RS M H (ρ.set i none) (σ.set i none) := by
  refine ⟨by simp [r.1], fun j u e => ?_⟩
  by_cases hj : i = j
  · subst hj
    by_cases hi : i < ρ.length
    · rw [List.getElem?_set_self hi] at e; cases e
    · rw [List.getElem?_eq_none (by simpa using hi)] at e; cases e
  · rw [List.getElem?_set_ne hj] at e ⊢
    exact r.2 j u e
theorem RS.wipe {M : Mm} {H : Hp} {ρ : Env} {σ : L2.St} (r : RS M H ρ σ) : ∀ vs : List Nat, RS M H (wipeE ρ vs) (L2.wipe σ vs)
  | [] => r
  | v :: vs => (RS.wipe r vs).none_at v
theorem wipe_get (σ : L2.St) : ∀ (vs : List Nat) (j : Nat), (L2.wipe σ vs)[j]? = if j ∈ vs ∧ j < σ.length then some none else σ[j]?
  | [], j => by simp [L2.wipe]
  | v :: vs, j => by
    unfold L2.wipe
    by_cases hj : v = j
    · subst hj
      by_cases hl : v < σ.length
      · rw [List.getElem?_set_self (by rw [L2.wipe_length]; exact hl), if_pos ⟨List.mem_cons_self, hl⟩]
      · rw [List.getElem?_eq_none (by rw [List.length_set, L2.wipe_length]; omega), if_neg (fun z => hl z.2), List.getElem?_eq_none (by omega)]
    · rw [List.getElem?_set_ne hj, wipe_get σ vs j]
      have : j ∈ v :: vs ↔ j ∈ vs := by simp [Ne.symm hj]
      simp only [this]
theorem wipe_of {σ σ2 : L2.St} {ts vs : List Nat} (hl : σ2.length = σ.length) (ho : ∀ j, j ∉ ts → σ2[j]? = (L2.wipe σ vs)[j]?) (hs : ∀ j ∈ ts, j ∈ vs) : L2.wipe σ2 vs = L2.wipe σ vs := by
  refine List.ext_getElem? fun j => ?_
  rw [wipe_get, wipe_get, hl]
  by_cases h : j ∈ vs ∧ j < σ.length
  · rw [if_pos h, if_pos h]
  · rw [if_neg h, if_neg h]
    by_cases hj : j ∈ vs
    · have : σ.length ≤ j := Nat.le_of_not_lt fun z => h ⟨hj, z⟩
      rw [List.getElem?_eq_none (by omega), List.getElem?_eq_none this]
    · rw [ho j fun z => hj (hs j z), wipe_get, if_neg h]
def lcL (k : TM) (t : BM) (f : EM) (ρ : Env) : List D → Hh → Option (List D × Hh)
  | [], h => some ([], h)
  | d :: ds, h => match k (.dat d) ρ h with
    | some ρ1 => obnd (t ρ1 h) fun b h2 => if b = true then obnd (f ρ1 h2) fun w h3 => match w with
        | .dat d' => obnd (lcL k t f ρ ds h3) fun r h4 => some (d' :: r, h4)
        | _ => none
      else lcL k t f ρ ds h2
    | none => none
def fLc (m : Bool) (gi : IM) (k : TM) (t : BM) (f : EM) (vs : List Nat) : EM := fun ρ h => obnd (gi ρ h) fun ds h1 => obnd (lcL k t f (wipeE ρ vs) ds h1) fun r h2 => if r.length ≤ sizeLine then mkL m r h2 else none
def bYes : BM := fun _ h => some (true, h)
abbrev DTs (X : Cx) (ifs : List Expr) (t : BM) : Prop := PTs X ifs (tT t)
section
variable {X : Cx}
theorem _root_.L2.PTs.weak {X : Cx} {e : List Expr} {t t' : TT} (h : PTs X e t) (i : ∀ σ H Q, t' σ H Q → t σ H Q) : PTs X e t' := ⟨fun pins s σ H Q I q => h.run pins s σ H Q I (i σ H Q q)⟩
theorem dts_nil : DTs X [] bYes := pts_nil.weak fun σ H Q => by
  rintro ⟨M, h, ρ, r, rs, c⟩
  exact c.fin (.refl _ _) r rfl
end
def Mm.made (M : Mm) (p : Addr) : Mm := ⟨p :: M.u, M.m⟩
theorem ext_made {M : Mm} {H : Hp} {p : Addr} {o : HO} (n : H p = none) : Ext M (M.made p) H (upd H p o) :=
  ⟨fun a m => by
    rcases List.mem_cons.mp m with rfl | m
    · exact .inr n
    · exact .inl m, trk_upd, fun a u e _ => by rw [upd_ne (ne_of_none e n)]; exact e, fun _ m => .inl m, Nat.le_refl _, fun _ _ => .inl rfl⟩
theorem Rep.make {M : Mm} {H : Hp} {h : Hh} (r : Rep M H h) {p : Addr} {o : HO} (n : H p = none) (ho : tpO o = false := by rfl) : Rep (M.made p) (upd H p o) h := by
  refine ⟨fun a m => ?_, r.len, r.inj, fun i a e => ?_, r.dead⟩
  · rcases List.mem_cons.mp m with rfl | m
    · exact ⟨fun z => r.new n (.inr z), o, upd_same, ho⟩
    · obtain ⟨h1, u, e, ht⟩ := r.us a m
      exact ⟨h1, u, by rw [upd_ne (ne_of_none e n)]; exact e, ht⟩
  · obtain ⟨u, hu, ro⟩ := r.at_ i a e
    obtain ⟨z, hz⟩ := ro.some_
    exact ⟨u, hu, ro.move (ext_made n) (upd_ne (ne_of_none hz n))⟩
mutual
theorem RD.off {M : Mm} {H : Hp} {p : Addr} {o : HO} (hp : p ∈ M.u) : ∀ {v : V} {d : D}, RD M H v d → RD M (upd H p o) v d
  | _, _, .non => .non
  | _, _, .bl b => .bl b
  | _, _, .int i => .int i
  | _, _, .str s => .str s
  | _, _, .tup n e r => .tup n (e.to fun _ q => by rw [upd_ne (fun z => n (.inl (by rw [z]; exact hp)))]; exact q) (RDs.off hp r)
  | _, _, .lst n e r => .lst n (by rw [upd_ne (fun z => n (.inl (by rw [z]; exact hp)))]; exact e) (RDs.off hp r)
  | _, _, .dic n e r => .dic n (by rw [upd_ne (fun z => n (.inl (by rw [z]; exact hp)))]; exact e) (RDk.off hp r)
  | _, _, .dit n e r => .dit n (by rw [upd_ne (fun z => n (.inl (by rw [z]; exact hp)))]; exact e) (RDt.off hp r)
theorem RDs.off {M : Mm} {H : Hp} {p : Addr} {o : HO} (hp : p ∈ M.u) : ∀ {v : List V} {d : List D}, RDs M H v d → RDs M (upd H p o) v d
  | _, _, .nil => .nil
  | _, _, .cons a r => .cons (RD.off hp a) (RDs.off hp r)
theorem RDk.off {M : Mm} {H : Hp} {p : Addr} {o : HO} (hp : p ∈ M.u) : ∀ {v : List (Key × V)} {d : List (D × D)}, RDk M H v d → RDk M (upd H p o) v d
  | _, _, .nil => .nil
  | _, _, .cons a r => .cons (RD.off hp a) (RDk.off hp r)
theorem RDt.off {M : Mm} {H : Hp} {p : Addr} {o : HO} (hp : p ∈ M.u) : ∀ {v : List KA} {d : List (D × D)}, RDt M H v d → RDt M (upd H p o) v d
  | _, _, .nil => .nil
  | _, _, .cons n e a r => .cons n (e.to fun _ q => by rw [upd_ne (fun z => n (.inl (by rw [z]; exact hp)))]; exact q) (RD.off hp a) (RDt.off hp r)
end
theorem RO.off {M : Mm} {H : Hp} {p a : Addr} {o : HO} {m : MO} (hp : p ∈ M.u) (hn : a ≠ p) (r : RO M H a m) : RO M (upd H p o) a m := by
  cases m with
  | lst ds => obtain ⟨xs, h, r⟩ := r; exact ⟨xs, by rw [upd_ne hn]; exact h, r.off hp⟩
  | dic ds => obtain ⟨xs, h, r⟩ := r; exact ⟨xs, by rw [upd_ne hn]; exact h, r.off hp⟩
  | dit ds => obtain ⟨xs, h, r⟩ := r; exact ⟨xs, by rw [upd_ne hn]; exact h, r.off hp⟩
  | ins C fs => obtain ⟨dx, gs, h, r⟩ := r; exact ⟨dx, gs, by rw [upd_ne hn]; exact h, r.to fun _ _ => RD.off hp⟩
  | obj C fs => obtain ⟨dx, gs, h, r⟩ := r; exact ⟨dx, gs, by rw [upd_ne hn]; exact h, r.to (fun _ _ _ q => .inl q) fun _ _ => RD.off hp⟩
  | los os => obtain ⟨xs, h, r⟩ := r; exact ⟨xs, by rw [upd_ne hn]; exact h, r.to (fun _ _ _ n => n) (fun b _ q _ n => by rw [upd_ne (fun z => n (.inl (by rw [z]; exact hp)))]; exact q) fun _ _ => RD.off hp⟩
  | tab q P =>
    obtain ⟨z, ps, h, t, r⟩ := r
    refine ⟨z, ps, by rw [upd_ne hn]; exact h, t, fun pos cv hc => ?_⟩
    obtain ⟨c, e1, n, e2⟩ := r pos cv hc
    exact ⟨c, e1, n, by rw [upd_ne (fun z => n (.inl (by rw [z]; exact hp)))]; exact e2⟩
theorem Rep.off {M : Mm} {H : Hp} {h : Hh} (r : Rep M H h) {p : Addr} {o : HO} (hp : p ∈ M.u) (ho : tpO o = false := by rfl) : Rep M (upd H p o) h := by
  refine ⟨fun a m => ?_, r.len, r.inj, fun i a e => ?_, r.dead⟩
  · obtain ⟨h1, u, e, ht⟩ := r.us a m
    refine ⟨h1, ?_⟩
    by_cases z : a = p
    · subst z; exact ⟨o, upd_same, ho⟩
    · exact ⟨u, by rw [upd_ne z]; exact e, ht⟩
  · obtain ⟨u, hu, ro⟩ := r.at_ i a e
    exact ⟨u, hu, ro.off hp fun z => (r.us p hp).1 (by rw [← z]; exact List.mem_of_getElem? e)⟩
theorem RV.off {M : Mm} {H : Hp} {p : Addr} {o : HO} {v : V} (hp : p ∈ M.u) : ∀ {w : W}, RV M H v w → RV M (upd H p o) v w
  | .dat _, r => RD.off hp r
  | .ref _, r => r
  | .scr _, ⟨a, u, e, n, q⟩ => ⟨a, u, e, n, by rw [upd_ne (fun z => n (.inl (by rw [z]; exact hp)))]; exact q⟩
  | .pack _, ⟨a, u, e, n, q, r⟩ => ⟨a, u, e, n, by rw [upd_ne (fun z => n (.inl (by rw [z]; exact hp)))]; exact q, r.move (fun _ _ z => z) fun _ _ => RD.off hp⟩
  | .tpk _, ⟨a, u, e, n, q, r⟩ => ⟨a, u, e, n, by rw [upd_ne (fun z => n (.inl (by rw [z]; exact hp)))]; exact q, r.move (fun _ _ z => z) fun _ _ => RD.off hp⟩
  | .lock _, ⟨a, u, kvs, e, n, q, r⟩ => ⟨a, u, kvs, e, n, by rw [upd_ne (fun z => n (.inl (by rw [z]; exact hp)))]; exact q, r.off hp⟩
  | .ins _ _, ⟨a, u, gs, e, n, q, r⟩ => ⟨a, u, gs, e, n, by rw [upd_ne (fun z => n (.inl (by rw [z]; exact hp)))]; exact q, r.to fun _ _ => RD.off hp⟩
  | .objs _, r => RWs.to r (fun _ _ _ n => n) (fun b _ q _ n => by rw [upd_ne (fun z => n (.inl (by rw [z]; exact hp)))]; exact q) fun _ _ => RD.off hp
  | .exc _ _ _, ⟨a, d, gs, e, r⟩ => ⟨a, d, gs, e, r.to (fun _ _ _ n => n) (fun b _ q _ n => by rw [upd_ne (fun z => n (.inl (by rw [z]; exact hp)))]; exact q) fun _ _ => RD.off hp⟩
theorem RS.off {M : Mm} {H : Hp} {ρ : Env} {σ : L2.St} {p : Addr} {o : HO} (hp : p ∈ M.u) (r : RS M H ρ σ) : RS M (upd H p o) ρ σ := ⟨r.1, fun i w e => by
  obtain ⟨v, e1, q⟩ := r.2 i w e
  exact ⟨v, e1, q.off hp⟩⟩
theorem RV.moveu {M M' : Mm} {H H' : Hp} (x : Ext M M' H H') (hm : M'.m = M.m) {v : V} : ∀ {w : W}, RV M H v w → RV M' H' v w
  | .dat _, r => RD.mono x r
  | .ref n, ⟨a, e, r⟩ => ⟨a, by rw [hm]; exact e, r⟩
  | .scr ns, ⟨a, o, e, n, q⟩ => ⟨a, o, e, x.out n q, x.st n q⟩
  | .pack its, ⟨a, xs, e, n, q, r⟩ => ⟨a, xs, e, x.out n q, x.st n q, r.move (fun i b z => by rw [hm]; exact z) fun _ _ => RD.mono x⟩
  | .tpk its, ⟨a, xs, e, n, q, r⟩ => ⟨a, xs, e, x.out n q, x.st n q, r.move (fun i b z => by rw [hm]; exact z) fun _ _ => RD.mono x⟩
  | .lock es, ⟨a, o, kvs, e, n, q, r⟩ => ⟨a, o, kvs, e, x.out n q, x.st n q, r.mono x⟩
  | .ins _ _, ⟨a, o, gs, e, n, q, r⟩ => ⟨a, o, gs, e, x.out n q, x.st n q, r.to fun _ _ => RD.mono x⟩
  | .objs _, r => RWs.to r (fun _ _ q n => x.out n q) (fun _ _ q _ n => x.st n q) fun _ _ => RD.mono x
  | .exc _ _ _, ⟨a, d, gs, e, r⟩ => ⟨a, d, gs, e, r.to (fun _ _ q n => x.out n q) (fun _ _ q _ n => x.st n q) fun _ _ => RD.mono x⟩
theorem RS.moveu {M M' : Mm} {H H' : Hp} (x : Ext M M' H H') (hm : M'.m = M.m) {ρ : Env} {σ : L2.St} (r : RS M H ρ σ) : RS M' H' ρ σ := ⟨r.1, fun i w e => by
  obtain ⟨v, e1, q⟩ := r.2 i w e
  exact ⟨v, e1, q.moveu x hm⟩⟩
mutual
theorem RD.sub {M M' : Mm} {H : Hp} (x : ∀ a, M'.Has a → M.Has a) : ∀ {v : V} {d : D}, RD M H v d → RD M' H v d
  | _, _, .non => .non
  | _, _, .bl b => .bl b
  | _, _, .int i => .int i
  | _, _, .str s => .str s
  | _, _, .tup n e r => .tup (fun z => n (x _ z)) e (RDs.sub x r)
  | _, _, .lst n e r => .lst (fun z => n (x _ z)) e (RDs.sub x r)
  | _, _, .dic n e r => .dic (fun z => n (x _ z)) e (RDk.sub x r)
  | _, _, .dit n e r => .dit (fun z => n (x _ z)) e (RDt.sub x r)
theorem RDs.sub {M M' : Mm} {H : Hp} (x : ∀ a, M'.Has a → M.Has a) : ∀ {v : List V} {d : List D}, RDs M H v d → RDs M' H v d
  | _, _, .nil => .nil
  | _, _, .cons a r => .cons (RD.sub x a) (RDs.sub x r)
theorem RDk.sub {M M' : Mm} {H : Hp} (x : ∀ a, M'.Has a → M.Has a) : ∀ {v : List (Key × V)} {d : List (D × D)}, RDk M H v d → RDk M' H v d
  | _, _, .nil => .nil
  | _, _, .cons a r => .cons (RD.sub x a) (RDk.sub x r)
theorem RDt.sub {M M' : Mm} {H : Hp} (x : ∀ a, M'.Has a → M.Has a) : ∀ {v : List KA} {d : List (D × D)}, RDt M H v d → RDt M' H v d
  | _, _, .nil => .nil
  | _, _, .cons n e a r => .cons (fun z => n (x _ z)) e (RD.sub x a) (RDt.sub x r)
end
theorem RO.sub {M M' : Mm} {H : Hp} {a : Addr} {m : MO} (x : ∀ a, M'.Has a → M.Has a) (k : ∀ n ∈ m.refs, ∀ z, M.m[n]? = some z → M'.m[n]? = some z ∨ M'.m[n]? = some none) (r : RO M H a m) : RO M' H a m := by
  cases m with
  | lst ds => obtain ⟨xs, h, r⟩ := r; exact ⟨xs, h, r.sub x⟩
  | dic ds => obtain ⟨xs, h, r⟩ := r; exact ⟨xs, h, r.sub x⟩
  | dit ds => obtain ⟨xs, h, r⟩ := r; exact ⟨xs, h, r.sub x⟩
  | ins C fs => obtain ⟨dx, gs, h, r⟩ := r; exact ⟨dx, gs, h, r.to fun _ _ => RD.sub x⟩
  | obj C fs => obtain ⟨dx, gs, h, r⟩ := r; exact ⟨dx, gs, h, r.to k fun _ _ => RD.sub x⟩
  | los os => obtain ⟨xs, h, r⟩ := r; exact ⟨xs, h, r.to (fun b _ _ n z => n (x b z)) (fun _ _ q _ _ => q) fun _ _ => RD.sub x⟩
  | tab q P =>
    obtain ⟨z, ps, h, t, r⟩ := r
    refine ⟨z, ps, h, t, fun pos cv hc => ?_⟩
    obtain ⟨c, e1, n, e2⟩ := r pos cv hc
    exact ⟨c, e1, fun z => n (x _ z), e2⟩
theorem less_has {u : List Addr} {m : List (Option Addr)} {p : Addr} : ∀ b, Mm.Has ⟨u, m⟩ b → Mm.Has ⟨p :: u, m⟩ b := fun b z => by
  rcases z with z | z
  · exact .inl (List.mem_cons_of_mem _ z)
  · exact .inr z
theorem Rep.told {u : List Addr} {m : List (Option Addr)} {p : Addr} {H : Hp} {h : Hh} (r : Rep ⟨p :: u, m⟩ H h) : Rep ⟨u, m⟩ H h :=
  ⟨fun a z => r.us a (List.mem_cons_of_mem _ z), r.len, r.inj, fun i a e => by
    obtain ⟨o, h1, h2⟩ := r.at_ i a e
    exact ⟨o, h1, h2.sub less_has fun _ _ _ q => .inl q⟩, r.dead⟩
theorem Rep.owned {u : List Addr} {m : List (Option Addr)} {p : Addr} {H : Hp} {h : Hh} {o : MO} (r : Rep ⟨p :: u, m⟩ H h) (hp : p ∉ u) (ro : RO ⟨p :: u, m⟩ H p o) : Rep ⟨u, m ++ [some p]⟩ H (h ++ [some o]) := by
  have hpm : some p ∉ m := (r.us p List.mem_cons_self).1
  have hsub : ∀ b, Mm.Has ⟨u, m ++ [some p]⟩ b → Mm.Has ⟨p :: u, m⟩ b := fun b z => by
    rcases z with z | z
    · exact .inl (List.mem_cons_of_mem _ z)
    · rcases List.mem_append.mp z with z | z
      · exact .inr z
      · have : b = p := by simpa using z
        rw [this]; exact .inl List.mem_cons_self
  have hk : ∀ {w : MO}, ∀ n ∈ w.refs, ∀ z, m[n]? = some z → (m ++ [some p])[n]? = some z ∨ (m ++ [some p])[n]? = some none := fun n _ z q => .inl (by rw [List.getElem?_append_left (List.getElem?_eq_some_iff.mp q).1]; exact q)
  have rl : m.length = h.length := r.len
  have cases_ : ∀ (i : Nat) (z : Option Addr), (m ++ [some p])[i]? = some z → (i < m.length ∧ m[i]? = some z) ∨ (i = m.length ∧ z = some p) := fun i z e => by
    by_cases hi : i < m.length
    · rw [List.getElem?_append_left hi] at e
      exact .inl ⟨hi, e⟩
    · rw [List.getElem?_append_right (by omega)] at e
      by_cases h0 : i - m.length = 0
      · rw [h0] at e
        exact .inr ⟨by omega, by simpa using e.symm⟩
      · rw [List.getElem?_eq_none (by simp; omega)] at e
        cases e
  refine ⟨fun a z => ?_, by simp [rl], fun i j a e1 e2 => ?_, fun i a e => ?_, fun i e => ?_⟩
  · obtain ⟨h1, q⟩ := r.us a (List.mem_cons_of_mem _ z)
    refine ⟨fun y => ?_, q⟩
    rcases List.mem_append.mp y with y | y
    · exact h1 y
    · have : a = p := by simpa using y
      rw [this] at z; exact hp z
  · rcases cases_ i _ e1 with ⟨h1, e1⟩ | ⟨h1, e1⟩ <;> rcases cases_ j _ e2 with ⟨h2, e2⟩ | ⟨h2, e2⟩
    · exact r.inj i j a e1 e2
    · cases e2; exact absurd (List.mem_of_getElem? e1) hpm
    · cases e1; exact absurd (List.mem_of_getElem? e2) hpm
    · omega
  · rcases cases_ i _ e with ⟨h1, e1⟩ | ⟨h1, e1⟩
    · obtain ⟨z, hz, q⟩ := r.at_ i a e1
      exact ⟨z, by rw [List.getElem?_append_left (by rw [← rl]; exact h1)]; exact hz, q.sub hsub hk⟩
    · cases e1
      subst h1
      exact ⟨o, by rw [rl]; simp, ro.sub hsub hk⟩
  · rcases cases_ i _ e with ⟨h1, e1⟩ | ⟨h1, e1⟩
    · rw [List.getElem?_append_left (by rw [← rl]; exact h1)]
      exact r.dead i e1
    · cases e1
theorem ExtE.reu {M M' : Mm} {H H' : Hp} (x : ExtE M M' H H') (u : List Addr) : ExtE ⟨u, M.m⟩ ⟨u, M'.m⟩ H H' := ⟨rfl, x.trk, x.stab, x.fresh, x.len, x.pre⟩
theorem ExtE.beside {M M' : Mm} {H H' : Hp} {p : Addr} {o : HO} (x : ExtE M M' H H') (n : H p = none) : ExtE M M' H (upd H' p o) :=
  ⟨x.same, fun a u e => by obtain ⟨u', e'⟩ := x.trk a u e; exact trk_upd a u' e', fun a u e na => by rw [upd_ne (ne_of_none e n)]; exact x.stab a u e na, x.fresh, x.len, x.pre⟩
theorem ExtE.into {M : Mm} {m : List (Option Addr)} {H H' : Hp} {p : Addr} (x : ExtE M ⟨M.u, m⟩ H H') (n : H p = none) : Ext M ⟨p :: M.u, m⟩ H H' :=
  ⟨fun a z => by
    rcases List.mem_cons.mp z with rfl | z
    · exact .inr n
    · exact .inl z, x.trk, x.stab, x.fresh, x.len, fun i hi => .inl (x.pre i hi)⟩
theorem lc_imp {gi : IM} {k : TM} {t : BM} {f : EM} {ts vs : List Nat} {m : Bool} (hs : ∀ j ∈ ts, j ∈ vs) : ∀ σ H Q, tE (fLc m gi k t f vs) σ H Q → tLc (tI gi) (tGd ts k) (tT t) (tE f) vs σ H Q := fun σ H Q => by
  rintro ⟨M, h, ρ, r, rs, c⟩
  obtain ⟨ds, h1, e1, c1⟩ := Cont.bind (δ := Unit) c
  refine ⟨M, h, ρ, ds, h1, r, rs, e1, fun M1 H1 J x1 r1 it D nD => ?_⟩
  obtain ⟨out, h2, e2, c2⟩ := Cont.bind (δ := Unit) (c1 M1 H1 x1)
  have x0 := ext_made (M := M1) (o := .lst []) nD
  have r0 := r1.make (o := .lst []) nD
  have rs0 : RS (M1.made D) (upd H1 D (.lst [])) (wipeE ρ vs) (L2.wipe σ vs) := ((rs.mono x1).moveu x0 rfl).wipe vs
  let P : Nat → Hp → Prop := fun i Hi => ∃ mi hi acc dacc rest, ExtE M1 ⟨M1.u, mi⟩ H1 Hi ∧ Rep ⟨D :: M1.u, mi⟩ Hi hi ∧ RS ⟨D :: M1.u, mi⟩ Hi (wipeE ρ vs) (L2.wipe σ vs) ∧ Hi D = some (.lst acc) ∧ RDs ⟨D :: M1.u, mi⟩ Hi acc dacc ∧ lcL k t f (wipeE ρ vs) (ds.drop i) hi = some (rest, h2) ∧ dacc ++ rest = out
  have outlen : out.length ≤ sizeLine := by
    have c3 := c2 M1 H1 (.refl _ _)
    by_cases hz : out.length ≤ sizeLine
    · exact hz
    · rw [if_neg hz] at c3; exact c3.no.elim
  refine ⟨fun i n Hi => n + i = ds.length ∧ P i Hi, ⟨ds.length, by omega, M1.m, h1, [], [], out, (ExtE.refl M1 H1).beside nD, r0, rs0, upd_same, .nil, by rw [List.drop_zero]; exact e2, rfl⟩, fun i n Hi w => ?_⟩
  obtain ⟨hn, mi, hi, acc, dacc, rest, xi, ri, rsi, hD, qa, el, eo⟩ := w
  have inD : D ∈ (⟨D :: M1.u, mi⟩ : Mm).u := List.mem_cons_self
  have itx := xi.into nD
  obtain ⟨ity, its⟩ := it _ Hi itx fun a ha => ri.tracked ha
  by_cases hlt : i < ds.length
  · refine .inr ?_
    have ed : ds[i]? = some ds[i] := List.getElem?_eq_getElem hlt
    obtain ⟨go, yl⟩ := ity i _ ed
    rw [List.drop_eq_getElem_cons hlt] at el
    refine ⟨go, P (i + 1), fun H' p => ⟨n - 1, by omega, by omega, p⟩, fun x H2 hy => ?_⟩
    obtain ⟨sm, rx⟩ := yl x H2 hy
    obtain ⟨ri2, xi2⟩ := ri.grow sm
    unfold lcL at el
    split at el
    · rename_i ρ1 ek
      refine ⟨_, hi, wipeE ρ vs, .dat ds[i], ρ1, ri2, rsi.mono xi2, rx, ek, fun σ2 rs2 l2 o2 => ⟨wipe_of (by rw [l2, L2.wipe_length]) o2 hs, ?_⟩⟩
      cases et : t ρ1 hi with
      | none => rw [et] at el; cases el
      | some pr =>
        obtain ⟨b, h3⟩ := pr
        rw [et] at el
        simp only [obnd_some] at el
        refine ⟨_, hi, ρ1, ri2, rs2, b, h3, et, fun M3 H3 b' x3 r3 eb => ?_⟩
        subst eb
        obtain ⟨u3, m3⟩ := M3
        obtain rfl : u3 = D :: M1.u := x3.same
        have xi3 : ExtE M1 ⟨M1.u, m3⟩ H1 H3 := xi.trans ((xi2.trans x3).reu M1.u)
        have hD3 : H3 D = some (.lst acc) := x3.stab _ _ (sm _ _ hD) fun z => (ri.us D inD).1 z
        cases b' with
        | false =>
          simp only [Bool.false_eq_true, if_false] at el
          exact iteF ⟨m3, h3, acc, dacc, rest, xi3, r3, (rsi.mono xi2).mono x3, hD3, (qa.mono xi2.ext).mono x3.ext, el, eo⟩
        | true =>
          simp only [if_true] at el
          refine iteT ?_
          cases ef : f ρ1 h3 with
          | none => rw [ef] at el; cases el
          | some pr =>
            obtain ⟨w, h4⟩ := pr
            rw [ef] at el
            simp only [obnd_some] at el
            refine ⟨_, h3, ρ1, r3, rs2.mono x3, w, h4, ef, fun M4 H4 y x4 r4 ry => ?_⟩
            obtain ⟨u4, m4⟩ := M4
            obtain rfl : u4 = D :: M1.u := x4.same
            have hD4 : H4 D = some (.lst acc) := x4.stab _ _ hD3 fun z => (r3.us D List.mem_cons_self).1 z
            split at el
            · rename_i d'
              cases er : lcL k t f (wipeE ρ vs) (ds.drop (i + 1)) h4 with
              | none => rw [er] at el; cases el
              | some pr =>
                obtain ⟨rest', h5⟩ := pr
                rw [er] at el
                simp only [obnd_some, Option.some.injEq, Prod.mk.injEq] at el
                obtain ⟨e5, e6⟩ := el
                subst e5 e6
                have q4 := ((qa.mono xi2.ext).mono x3.ext).mono x4.ext
                have hlen : acc.length < sizeLine := by
                  have h7 := congrArg List.length eo
                  rw [List.length_append, List.length_cons] at h7
                  rw [qa.length]; omega
                have in4 : D ∈ (⟨D :: M1.u, m4⟩ : Mm).u := List.mem_cons_self
                exact ⟨acc, hD4, hlen, m4, h4, acc ++ [y], dacc ++ [d'], rest', (xi3.trans (x4.reu M1.u)).beside nD, r4.off in4, (((rsi.mono xi2).mono x3).mono x4).off in4, upd_same, (q4.off in4).app (.cons (RD.off in4 ry) .nil), er, by rw [List.append_assoc]; exact eo⟩
            · cases el
    · cases el
  · refine .inl ?_
    have hi' : i = ds.length := by omega
    subst hi'
    rw [List.drop_length] at el
    cases el
    rw [List.append_nil] at eo
    subst eo
    refine ⟨its, ?_⟩
    have c3 := c2 M1 H1 (.refl _ _)
    rw [if_pos outlen] at c3
    have nu : D ∉ M1.u := fun z => r1.new nD (.inl z)
    have nm : some D ∉ mi := (ri.us D inD).1
    cases m with
    | false =>
      exact c3.fin xi ri.told (RD.lst (fun z => z.elim nu nm) hD (qa.sub less_has))
    | true =>
      refine c3.fin (M' := ⟨M1.u, mi ++ [some D]⟩) ⟨rfl, xi.trk, xi.stab, fun a z => ?_, Nat.le_trans xi.len (by simp), fun j hj => ?_⟩ (ri.owned nu ⟨acc, hD, qa⟩) ⟨D, ?_, rfl⟩
      · rcases List.mem_append.mp z with z | z
        · exact xi.fresh a z
        · have : a = D := by simpa using z
          rw [this]; exact .inr nD
      · have hl : j < mi.length := Nat.lt_of_lt_of_le hj xi.len
        show (mi ++ [some D])[j]? = _
        rw [List.getElem?_append_left hl]; exact xi.pre j hj
      · show (mi ++ [some D])[h2.length]? = _
        rw [← show mi.length = h2.length from ri.len]; simp
section
variable {X : Cx}
theorem d_lc (m : Bool) {elt tg iter : Expr} {ifs : List Expr} {scope : Scope} {own : List (Str × Nat)} {pos : Pos} {gi : IM} {ts : List Nat} {k : TM} {t : BM} {f : EM} (hc : X.calm = true) (hN : X.N.Nodup) (hi : DI X tg iter gi) (ok : BlkOk X.N X.env.scope scope own)
    (hg : ∀ (s : Shared) (H : Hp) (C : Addr) (cl : List (Str × Addr)) (fp : List Addr), DG (X.blk s H scope (compEnvC scope cl C X.env) fp) tg ts k) (ht : ∀ (s : Shared) (H : Hp) (C : Addr) (cl : List (Str × Addr)) (fp : List Addr), DTs (X.blk s H scope (compEnvC scope cl C X.env) fp) ifs t)
    (he : ∀ (s : Shared) (H : Hp) (C : Addr) (cl : List (Str × Addr)) (fp : List Addr), DE (X.blk s H scope (compEnvC scope cl C X.env) fp) elt f) (hsub : ∀ j ∈ ts, j ∈ own.map (·.2)) (hs : ∀ x, foldedSetIterable iter X.env x = pure x := by intro _; rfl) :
    DE X (.ListComp elt [⟨tg, iter, ifs, 0⟩] scope pos) (fLc m gi k t f (own.map (·.2))) := (pe_lc hc hN hi ok hg ht he hs).weak (lc_imp hsub)
end
end DL
set_option maxRecDepth 100000
set_option maxHeartbeats 4000000
namespace DL
open PySem PySem.Spec PyProof.Rows L2
variable [HW]
inductive Out where
  | nx (ρ : Env) | rt (w : W) | bk (ρ : Env) | ct (ρ : Env)
abbrev SM := Env → Hh → Option (Out × Hh)
def SPost (D : Ends) (M0 : Mm) (H0 : Hp) (r : Option (Out × Hh)) : Prop := match r with
  | some (.nx ρ, h) => ∀ M H σ, M.u = M0.u → Ext M0 M H0 H → Rep M H h → RS M H ρ σ → D.nx σ H
  | some (.rt w, h) => ∀ M H v, M.u = M0.u → Ext M0 M H0 H → Rep M H h → RV M H v w → D.rt v H
  | some (.bk ρ, h) => ∀ M H σ, M.u = M0.u → Ext M0 M H0 H → Rep M H h → RS M H ρ σ → D.bk σ H
  | some (.ct ρ, h) => ∀ M H σ, M.u = M0.u → Ext M0 M H0 H → Rep M H h → RS M H ρ σ → D.ct σ H
  | none => False
theorem SPost.mono {D : Ends} {M0 M1 : Mm} {H0 H1 : Hp} {r : Option (Out × Hh)} (p : SPost D M0 H0 r) (u : M1.u = M0.u) (x : Ext M0 M1 H0 H1) : SPost D M1 H1 r := by
  match r, p with
  | some (.nx ρ, h), p => exact fun M H σ e y => p M H σ (e.trans u) (x.trans y)
  | some (.rt w, h), p => exact fun M H σ e y => p M H σ (e.trans u) (x.trans y)
  | some (.bk ρ, h), p => exact fun M H σ e y => p M H σ (e.trans u) (x.trans y)
  | some (.ct ρ, h), p => exact fun M H σ e y => p M H σ (e.trans u) (x.trans y)
def tS (f : SM) : TS := fun D σ H => ∃ M h ρ, Rep M H h ∧ RS M H ρ σ ∧ SPost D M H (f ρ h)
abbrev DS (X : Cx) (st : Stmt) (f : SM) : Prop := PS X st (tS f)
abbrev DSs (X : Cx) (sts : List Stmt) (f : SM) : Prop := PSs X sts (tS f)
def sSeq (f g : SM) : SM := fun ρ h => match f ρ h with
  | some (.nx ρ1, h1) => g ρ1 h1
  | r => r
def sSkip : SM := fun ρ h => some (.nx ρ, h)
def sNever : SM := fun _ _ => none
section
variable {X : Cx}
theorem seq_imp {f g : SM} : ∀ D σ H, tS (sSeq f g) D σ H → tSeq (tS f) (tS g) D σ H := fun D σ H => by
  rintro ⟨M, h, ρ, r, rs, p⟩
  refine ⟨M, h, ρ, r, rs, ?_⟩
  unfold sSeq at p
  cases e : f ρ h with
  | none => rw [e] at p; exact p
  | some q =>
    obtain ⟨o, h1⟩ := q
    rw [e] at p
    cases o with
    | nx ρ1 => exact fun M1 H1 σ1 u x r1 rs1 => ⟨M1, h1, ρ1, r1, rs1, p.mono u x⟩
    | rt w => exact p
    | bk ρ1 => exact p
    | ct ρ1 => exact p
theorem ds_cons {st : Stmt} {sts : List Stmt} {f g : SM} (h1 : DS X st f) (h2 : DSs X sts g) : DSs X (st :: sts) (sSeq f g) := (pss_cons h1 h2).weak seq_imp
theorem ds_one {st : Stmt} {f : SM} (h1 : DS X st f) : DSs X [st] f := pss_one h1
theorem ds_nil : DSs X [] sSkip := pss_nil.weak fun D σ H => by
  rintro ⟨M, h, ρ, r, rs, p⟩
  exact p M H σ rfl (.refl _ _) r rs
def sbnd {α : Type} (r : Option (α × Hh)) (k : α → Hh → Option (Out × Hh)) : Option (Out × Hh) := match r with
  | some (a, h) => k a h
  | none => none
@[simp] theorem sbnd_some {α : Type} (a : α) (h : Hh) (k : α → Hh → Option (Out × Hh)) : sbnd (some (a, h)) k = k a h := rfl
@[simp] theorem sbnd_none {α : Type} (k : α → Hh → Option (Out × Hh)) : sbnd none k = none := rfl
theorem SPost.bind {α : Type} {D : Ends} {M : Mm} {H : Hp} {r : Option (α × Hh)} {k : α → Hh → Option (Out × Hh)} (p : SPost D M H (sbnd r k)) : ∃ a h1, r = some (a, h1) ∧ SPost D M H (k a h1) := by
  cases r with
  | none => exact p.elim
  | some q => obtain ⟨a, h1⟩ := q; exact ⟨a, h1, rfl, p⟩
def sExpr (f : EM) : SM := fun ρ h => sbnd (f ρ h) fun _ h1 => some (.nx ρ, h1)
theorem ds_expr {e : Expr} {pos : Pos} {f : EM} (he : DE X e f) (hs : swapsWith e none pos.line X.env = pure false := by rfl) : DS X (.Expr e pos) (sExpr f) := (ps_expr he hs).weak fun D σ H => by
  rintro ⟨M, h, ρ, r, rs, p⟩
  obtain ⟨w, h1, e1, p1⟩ := p.bind
  exact ⟨M, h, ρ, r, rs, w, h1, e1, fun M1 H1 v x1 r1 v1 => p1 M1 H1 σ x1.same x1.ext r1 (rs.mono x1)⟩
def sRet (f : EM) : SM := fun ρ h => sbnd (f ρ h) fun w h1 => some (.rt w, h1)
theorem ds_ret {e : Expr} {pos : Pos} {f : EM} (he : DE X e f) : DS X (.Return (some e) pos) (sRet f) := (ps_ret he).weak fun D σ H => by
  rintro ⟨M, h, ρ, r, rs, p⟩
  obtain ⟨w, h1, e1, p1⟩ := p.bind
  exact ⟨M, h, ρ, r, rs, w, h1, e1, fun M1 H1 v x1 r1 v1 => p1 M1 H1 v x1.same x1.ext r1 v1⟩
def sRetN : SM := fun _ h => some (.rt (.dat .none), h)
def sIf (t : BM) (f g : SM) : SM := fun ρ h => sbnd (t ρ h) fun b h1 => if b = true then f ρ h1 else g ρ h1
theorem ds_if {c : Expr} {a b : List Stmt} {pos : Pos} {t : BM} {f g : SM} (hc : DT X c t) (ha : DSs X a f) (hb : DSs X b g) : DS X (.If c a b pos) (sIf t f g) := (ps_if hc ha hb).weak fun D σ H => by
  rintro ⟨M, h, ρ, r, rs, p⟩
  obtain ⟨w, h1, e1, p1⟩ := p.bind
  refine ⟨M, h, ρ, r, rs, w, h1, e1, fun M1 H1 v x1 r1 v1 => ?_⟩
  subst v1
  have p2 := p1.mono x1.same x1.ext
  cases v with
  | true => exact iteT ⟨M1, h1, ρ, r1, rs.mono x1, p2⟩
  | false => exact iteF ⟨M1, h1, ρ, r1, rs.mono x1, p2⟩
def sAsg (f : EM) (g : TM) : SM := fun ρ h => sbnd (f ρ h) fun w h1 => match g w ρ h1 with
  | some ρ1 => some (.nx ρ1, h1)
  | none => none
theorem ds_set {i : Nat} {x : Str} {e : Expr} {pos pos' : Pos} {f : EM} (h : PS X (.Assign [.Name x pos'] e pos) (tAsg (tE f) (gName i))) : DS X (.Assign [.Name x pos'] e pos) (sAsg f (gN i)) := h.weak fun D σ H => by
  rintro ⟨M, h, ρ, r, rs, p⟩
  obtain ⟨w, h1, e1, p1⟩ := p.bind
  exact ⟨M, h, ρ, r, rs, w, h1, e1, fun M1 H1 v x1 r1 v1 => p1 M1 H1 _ x1.same x1.ext r1 ((rs.mono x1).set v1)⟩
def sPar (g : AM) (is : List Nat) : SM := fun ρ h => sbnd (g ρ h) fun ws h1 => if ws.length = is.length then some (.nx ((is.zip ws).foldl (fun ρ p => ρ.set p.1 (some p.2)) ρ), h1) else none
theorem ds_par2 {i j : Nat} {st : Stmt} {g : AM} (h : PS X st (tPar i j (tA g))) : DS X st (sPar g [i, j]) := h.weak fun D σ H => by
  rintro ⟨M, h, ρ, r, rs, p⟩
  obtain ⟨ws, h1, e1, p1⟩ := p.bind
  refine ⟨M, h, ρ, r, rs, ws, h1, e1, fun M1 H1 vs x1 r1 v1 => ?_⟩
  split at p1
  · rename_i hz
    match ws, hz, v1, p1 with
    | [w1, w2], _, v1, p1 =>
      obtain ⟨a, b, rfl, ra, rb⟩ := rvs2 v1
      exact ⟨a, b, rfl, p1 M1 H1 _ x1.same x1.ext r1 (((rs.mono x1).set ra).set rb)⟩
  · exact p1.elim
def setW (o i : W) (w : W) (h : Hh) : Option Hh := match o, i, w with
  | .ref n, .dat (.int k), .dat d => match lstAt h n with
    | some ds => match ixN ds.length k with
      | some j => some (h.set n (some (.lst (ds.set j d))))
      | none => none
    | none => none
  | _, _, _ => none
def sSub (f o i : EM) : SM := fun ρ h => sbnd (f ρ h) fun w h1 => sbnd (o ρ h1) fun a h2 => sbnd (i ρ h2) fun b h3 => match setW a b w h3 with
  | some h4 => some (.nx ρ, h4)
  | none => none
theorem sub_imp {f o i : EM} : ∀ D σ H, tS (sSub f o i) D σ H → tAsg (tE f) (gSub (tE o) (tE i) rSetL) D σ H := fun D σ H => by
  rintro ⟨M, h, ρ, r, rs, p⟩
  obtain ⟨w, h1, e1, p1⟩ := p.bind
  refine ⟨M, h, ρ, r, rs, w, h1, e1, fun M1 H1 v x1 r1 v1 => ?_⟩
  obtain ⟨a, h2, e2, p2⟩ := p1.bind
  refine ⟨M1, h1, ρ, r1, rs.mono x1, a, h2, e2, fun M2 H2 v' x2 r2 v2 => ?_⟩
  obtain ⟨b, h3, e3, p3⟩ := p2.bind
  refine ⟨M2, h2, ρ, r2, (rs.mono x1).mono x2, b, h3, e3, fun M3 H3 v'' x3 r3 v3 => ?_⟩
  have ra := v2.mono x3
  have rw' := (v1.mono x2).mono x3
  unfold setW at p3
  split at p3
  · rename_i h4 e4
    split at e4
    · rename_i n k d
      obtain ⟨ad, ea, rfl⟩ := ra
      cases (show RD M3 H3 _ _ from v3)
      split at e4
      · rename_i ds el
        obtain ⟨xs, hx, q⟩ := lstAt_ok r3 el ea
        split at e4
        · rename_i j ej
          cases e4
          refine ⟨ad, xs, k, j, rfl, rfl, hx, by rw [q.length]; exact ej, ?_⟩
          have x4 := ext_set (H := H3) (o := .lst (xs.set j v)) ea
          have xx := ((x1.trans x2).trans x3).trans x4
          exact p3 M3 _ σ xx.same xx.ext (r3.set ea ⟨_, upd_same, (q.set j rw').mono x4.ext⟩) (rs.mono xx)
        · cases e4
      · cases e4
    · cases e4
  · exact p3.elim
theorem ds_sub {o i e : Expr} {pos tpos : Pos} {f fo fi : EM} (he : DE X e f) (ho : DE X o fo) (hi : DE X i fi) (h : PS X (.Assign [.Subscript o i tpos] e pos) (tAsg (tE f) (gSub (tE fo) (tE fi) rSetL))) : DS X (.Assign [.Subscript o i tpos] e pos) (sSub f fo fi) := h.weak sub_imp
def forL (k : TM) (body : SM) : List D → Env → Hh → Option (Out × Hh)
  | [], ρ, h => some (.nx ρ, h)
  | d :: ds, ρ, h => match k (.dat d) ρ h with
    | some ρ1 => match body ρ1 h with
      | some (.nx ρ2, h2) => forL k body ds ρ2 h2
      | some (.ct ρ2, h2) => forL k body ds ρ2 h2
      | some (.bk ρ2, h2) => some (.nx ρ2, h2)
      | some (.rt w, h2) => some (.rt w, h2)
      | none => none
    | none => none
def sFor (gi : IM) (k : TM) (body : SM) : SM := fun ρ h => sbnd (gi ρ h) fun ds h1 => forL k body ds ρ h1
theorem for_imp {gi : IM} {k : TM} {body : SM} {ts : List Nat} : ∀ D σ H, tS (sFor gi k body) D σ H → tFor (tI gi) (tGd ts k) (tS body) D σ H := fun D σ H => by
  rintro ⟨M, h, ρ, r, rs, p⟩
  obtain ⟨ds, h1, e1, p1⟩ := p.bind
  refine ⟨M, h, ρ, ds, h1, r, rs, e1, fun M1 H1 J x1 r1 it => ?_⟩
  have p2 := p1.mono x1.same x1.ext
  let P : Nat → L2.St → Hp → Prop := fun i σi Hi => ∃ Mi hi ρi, Mi.u = M1.u ∧ Ext M1 Mi H1 Hi ∧ Rep Mi Hi hi ∧ RS Mi Hi ρi σi ∧ SPost D Mi Hi (forL k body (ds.drop i) ρi hi)
  refine ⟨fun i n σi Hi => n + i = ds.length ∧ P i σi Hi, ⟨ds.length, by omega, M1, h1, ρ, rfl, .refl _ _, r1, rs.mono x1, by rw [List.drop_zero]; exact p2⟩, fun i n σi Hi w => ?_⟩
  obtain ⟨hn, Mi, hi, ρi, ui, xi, ri, rsi, pi⟩ := w
  obtain ⟨ity, its⟩ := it Mi Hi xi fun a ha => ri.tracked ha
  by_cases hlt : i < ds.length
  · refine .inr ?_
    have ed : ds[i]? = some ds[i] := List.getElem?_eq_getElem hlt
    obtain ⟨go, yl⟩ := ity i _ ed
    rw [List.drop_eq_getElem_cons hlt] at pi
    refine ⟨go, P (i + 1), fun σ' H' q => ⟨n - 1, by omega, by omega, q⟩, fun x H2 hy => ?_⟩
    obtain ⟨sm, rx⟩ := yl x H2 hy
    obtain ⟨ri2, xi2⟩ := ri.grow sm
    unfold forL at pi
    split at pi
    · rename_i ρ1 ek
      refine ⟨Mi, hi, ρi, .dat ds[i], ρ1, ri2, rsi.mono xi2, rx, ek, fun σ2 rs2 _ _ => ⟨Mi, hi, ρ1, ri2, rs2, ?_⟩⟩
      have pi' := pi.mono rfl xi2.ext
      cases eb : body ρ1 hi with
      | none => rw [eb] at pi'; exact pi'.elim
      | some q =>
        obtain ⟨o, h3⟩ := q
        rw [eb] at pi'
        cases o with
        | nx ρ2 => exact fun M3 H3 σ3 u3 x3 r3 rs3 => ⟨M3, h3, ρ2, u3.trans ui, (xi.trans xi2.ext).trans x3, r3, rs3, SPost.mono pi' u3 x3⟩
        | ct ρ2 => exact fun M3 H3 σ3 u3 x3 r3 rs3 => ⟨M3, h3, ρ2, u3.trans ui, (xi.trans xi2.ext).trans x3, r3, rs3, SPost.mono pi' u3 x3⟩
        | bk ρ2 => exact pi'
        | rt w => exact pi'
    · exact pi.elim
  · refine .inl ?_
    have hi' : i = ds.length := by omega
    subst hi'
    rw [List.drop_length] at pi
    exact ⟨its, pi Mi Hi σi rfl (.refl _ _) ri rsi⟩
theorem ds_for {tg iter : Expr} {body : List Stmt} {pos : Pos} {gi : IM} {k : TM} {ts : List Nat} {f : SM} (hc : X.calm = true) (hp : PassesOwn (model X.prog X.w) X.A X.env X.xe) (hi : DI X tg iter gi) (hg : DG X tg ts k) (hb : DSs X body f) (hs : ∀ x, foldedSetIterable iter X.env x = pure x := by intro _; rfl) : DS X (.For tg iter body [] pos) (sFor gi k f) :=
  (ps_for hp hc hi hg hb hs).weak for_imp
end
abbrev FM := List W → Hh → Option (W × Hh)
def live (h : Hh) : List (Option (List Nat)) := h.map (Option.map MO.refs)
def leave (rm : Bool) (h : Hh) (w : W) (h' : Hh) : Option (W × Hh) := if live (h'.take h.length) = live h then match w with
    | .ref n => if n < h.length then some (.ref n, h'.take h.length) else match h'[n]? with
      | some (some (.lst ds)) => if rm = true then some (.ref h.length, h'.take h.length ++ [some (.lst ds)]) else some (.dat (.list ds), h'.take h.length)
      | some (some (.dic es)) => if rm = true then some (.ref h.length, h'.take h.length ++ [some (.dic es)]) else some (.dat (.dict es), h'.take h.length)
      | some (some (.dit es)) => if rm = true then some (.ref h.length, h'.take h.length ++ [some (.dit es)]) else none
      | _ => none
    | .pack _ => none
    | .lock _ => none
    | .tpk _ => none
    | w => some (w, h'.take h.length)
  else none
def fnM (rm : Bool) (np nl : Nat) (body : SM) : FM := fun ws h => if ws.length = np then match body (ws.map some ++ List.replicate (nl - np) none) h with
    | some (.rt w, h') => leave rm h w h'
    | some (.nx _, h') => leave rm h (.dat .none) h'
    | _ => none
  else none
def spD (m : FM) : Sp := fun vs H Q _ => ∃ M h ws, Rep M H h ∧ RVs M H vs ws ∧ Cont RV (m ws h) M H Q
end DL
set_option maxRecDepth 100000
set_option maxHeartbeats 400000
namespace DL
open PySem PySem.Spec PyProof.Rows L2
variable [HW]
theorem live_get0 {h h' : Hh} (e : live (h'.take h.length) = live h) {i : Nat} (hi : i < h.length) : (h'[i]?).map (Option.map MO.refs) = (h[i]?).map (Option.map MO.refs) := by
  have := congrArg (fun l => l[i]?) e
  simp only [live, List.getElem?_map] at this
  rw [List.getElem?_take_of_lt hi] at this
  exact this
theorem RO.lt {M : Mm} {H : Hp} {a : Addr} {m : MO} (r : RO M H a m) : ∀ n ∈ m.refs, n < M.m.length := fun n z => by
  cases m with
  | obj C fs => obtain ⟨dx, gs, h, r⟩ := r; exact r.lt n z
  | _ => cases z
theorem live_get {h h' : Hh} (e : live (h'.take h.length) = live h) {i : Nat} (hi : i < h.length) : (h'[i]?).map Option.isSome = (h[i]?).map Option.isSome := by
  have h0 : (h'[i]?).map (Option.map MO.refs) = (h[i]?).map (Option.map MO.refs) := live_get0 e hi
  have h1 := congrArg (Option.map Option.isSome) h0
  simpa [Option.map_map, Function.comp_def] using h1
section
variable {M M' : Mm} {H H' : Hp} {h h' : Hh}
theorem leave_same (x : Ext M M' H H') (r : Rep M H h) (r' : Rep M' H' h') (e : live (h'.take h.length) = live h) {i : Nat} {a : Addr} (q : M.m[i]? = some (some a)) : M'.m[i]? = some (some a) := by
  have hi := lt_of_get q
  rcases x.kill i hi with k | k
  · rw [k]; exact q
  · have d := r'.dead i k
    obtain ⟨o, ho, _⟩ := r.at_ i a q
    have l := live_get e (i := i) (by rw [← r.len]; exact hi)
    rw [d, ho] at l
    cases l
theorem leave_has (x : Ext M M' H H') (u : M'.u = M.u) (r : Rep M H h) (r' : Rep M' H' h') (e : live (h'.take h.length) = live h) : ∀ b, M.Has b → M'.Has b := fun b z => by
  rcases z with z | z
  · exact .inl (by rw [u]; exact z)
  · obtain ⟨i, hi, q⟩ := List.getElem_of_mem z
    exact .inr (List.mem_of_getElem? (leave_same x r r' e (i := i) (by rw [List.getElem?_eq_getElem hi, q])))
theorem leave_k (x : Ext M M' H H') (r : Rep M H h) (r' : Rep M' H' h') (e : live (h'.take h.length) = live h) {i : Nat} {a : Addr} {o : MO} (q : M.m[i]? = some (some a)) (ho : h'[i]? = some (some o)) : ∀ n ∈ o.refs, ∀ z, M'.m[n]? = some z → M.m[n]? = some z ∨ M.m[n]? = some none := fun n hn z hz => by
  obtain ⟨o0, ho0, ro⟩ := r.at_ i a q
  have l := live_get0 e (i := i) (by rw [← r.len]; exact lt_of_get q)
  rw [ho, ho0] at l
  simp only [Option.map_some, Option.some.injEq] at l
  rw [l] at hn
  have hlt := ro.lt n hn
  cases y : M.m[n] with
  | none => exact .inr (by rw [List.getElem?_eq_getElem hlt, y])
  | some b =>
    have e1 : M.m[n]? = some (some b) := by rw [List.getElem?_eq_getElem hlt, y]
    have e2 := leave_same x r r' e e1
    rw [hz] at e2
    exact .inl (by rw [e1, e2])
theorem leave_rep (x : Ext M M' H H') (u : M'.u = M.u) (r : Rep M H h) (r' : Rep M' H' h') (e : live (h'.take h.length) = live h) : Rep M H' (h'.take h.length) := by
  have hl : (h'.take h.length).length = h.length := by
    have := congrArg List.length e
    simpa [live] using this
  refine ⟨fun a z => ?_, by rw [hl]; exact r.len, r.inj, fun i a q => ?_, fun i q => ?_⟩
  · obtain ⟨h1, o, h2, ht⟩ := r.us a z
    exact ⟨h1, o, x.stab a o h2 h1, ht⟩
  · obtain ⟨o, ho, ro⟩ := r'.at_ i a (leave_same x r r' e q)
    exact ⟨o, by rw [List.getElem?_take_of_lt (by rw [← r.len]; exact lt_of_get q)]; exact ho, ro.sub (leave_has x u r r' e) (leave_k x r r' e q ho)⟩
  · have hi : i < h.length := by rw [← r.len]; exact lt_of_get q
    have l := live_get e hi
    rw [r.dead i q] at l
    rw [List.getElem?_take_of_lt hi]
    cases z : h'[i]? with
    | none => rw [z] at l; cases l
    | some o =>
      rw [z] at l
      cases o with
      | none => rfl
      | some _ => cases l
theorem leave_ext (x : Ext M M' H H') : ExtE M M H H' := ⟨rfl, x.trk, x.stab, fun _ m => .inl m, Nat.le_refl _, fun _ _ => rfl⟩
theorem leave_out (x : Ext M M' H H') (u : M'.u = M.u) (r : Rep M H h) (r' : Rep M' H' h') (e : live (h'.take h.length) = live h) {n : Nat} {a : Addr} (hn : ¬ n < h.length) (q : M'.m[n]? = some (some a)) : ¬ M.Has a := fun z => by
  rcases z with z | z
  · exact (r'.us a (by rw [u]; exact z)).1 (List.mem_of_getElem? q)
  · obtain ⟨i, hi, qi⟩ := List.getElem_of_mem z
    have q' := leave_same x r r' e (i := i) (by rw [List.getElem?_eq_getElem hi, qi])
    have := r'.inj i n a q' q
    rw [r.len] at hi
    omega
theorem leave_mut (x : Ext M M' H H') (u : M'.u = M.u) (r : Rep M H h) (r' : Rep M' H' h') (e : live (h'.take h.length) = live h) {n : Nat} {a : Addr} {o : MO} (hn : ¬ n < h.length) (q : M'.m[n]? = some (some a)) (ho : h'[n]? = some (some o)) (hr : o.refs = [] := by rfl) :
    Rep ⟨M.u, M.m ++ [some a]⟩ H' (h'.take h.length ++ [some o]) ∧ ExtE M ⟨M.u, M.m ++ [some a]⟩ H H' := by
  have out := leave_out x u r r' e hn q
  obtain ⟨o', ho', ro⟩ := r'.at_ n a q
  rw [ho] at ho'; cases ho'
  have R := leave_rep x u r r' e
  have hsub : ∀ b, Mm.Has ⟨a :: M.u, M.m⟩ b → M'.Has b := fun b z => by
    rcases z with z | z
    · rcases List.mem_cons.mp z with rfl | z
      · exact .inr (List.mem_of_getElem? q)
      · exact .inl (by rw [u]; exact z)
    · exact leave_has x u r r' e b (.inr z)
  have R2 : Rep ⟨a :: M.u, M.m⟩ H' (h'.take h.length) := by
    refine ⟨fun b z => ?_, R.len, R.inj, fun i b z => ?_, R.dead⟩
    · rcases List.mem_cons.mp z with rfl | z
      · exact ⟨fun y => out (.inr y), ro.kind⟩
      · exact R.us b z
    · obtain ⟨w, hw, rw'⟩ := r'.at_ i b (leave_same x r r' e z)
      exact ⟨w, by rw [List.getElem?_take_of_lt (by rw [← r.len]; exact lt_of_get z)]; exact hw, rw'.sub hsub (leave_k x r r' e z hw)⟩
  refine ⟨R2.owned (fun y => out (.inl y)) (ro.sub hsub (fun k hk => by rw [hr] at hk; cases hk)), ⟨rfl, x.trk, x.stab, fun b z => ?_, by simp, fun i hi => List.getElem?_append_left hi⟩⟩
  rcases List.mem_append.mp z with z | z
  · exact .inl z
  · have : b = a := by simpa using z
    subst this
    exact x.fresh b (List.mem_of_getElem? q)
theorem leave_ok {rm : Bool} {w : W} {v : V} {Q : VK} (x : Ext M M' H H') (u : M'.u = M.u) (r : Rep M H h) (r' : Rep M' H' h') (rv : RV M' H' v w) (c : Cont RV (leave rm h w h') M H Q) : Q v H' := by
  unfold leave at c
  split at c
  · rename_i e
    have sub := leave_has x u r r' e
    have R := leave_rep x u r r' e
    split at c
    · rename_i n
      obtain ⟨a, ea, rfl⟩ := rv
      split at c
      · rename_i hn
        refine c.fin (leave_ext x) R ⟨a, ?_, rfl⟩
        rcases x.kill n (by rw [r.len]; exact hn) with k | k
        · rw [← k]; exact ea
        · rw [ea] at k; cases k
      · rename_i hn
        have out := leave_out x u r r' e hn ea
        obtain ⟨o, ho, ro⟩ := r'.at_ n a ea
        rw [ho] at c
        have hlen : M.m.length = (h'.take h.length).length := R.len
        have hl : (h'.take h.length).length = h.length := by
          have := congrArg List.length e
          simpa [live] using this
        cases o with
        | lst ds =>
          obtain ⟨xs, hx, q⟩ := ro
          cases rm with
          | false => exact c.fin (leave_ext x) R (RD.lst out hx (q.sub sub))
          | true =>
            obtain ⟨R2, x2⟩ := leave_mut x u r r' e hn ea ho
            exact c.fin x2 R2 ⟨a, by show (M.m ++ [some a])[h.length]? = _; rw [← hl, ← hlen]; simp, rfl⟩
        | dic ds =>
          obtain ⟨xs, hx, q⟩ := ro
          cases rm with
          | false => exact c.fin (leave_ext x) R (RD.dic out hx (q.sub sub))
          | true =>
            obtain ⟨R2, x2⟩ := leave_mut x u r r' e hn ea ho
            exact c.fin x2 R2 ⟨a, by show (M.m ++ [some a])[h.length]? = _; rw [← hl, ← hlen]; simp, rfl⟩
        | dit ds =>
          obtain ⟨xs, hx, q⟩ := ro
          cases rm with
          | false => exact c.no.elim
          | true =>
            obtain ⟨R2, x2⟩ := leave_mut x u r r' e hn ea ho
            exact c.fin x2 R2 ⟨a, by show (M.m ++ [some a])[h.length]? = _; rw [← hl, ← hlen]; simp, rfl⟩
        | tab q P => exact c.no.elim
        | ins C fs => exact c.no.elim
        | obj C fs => exact c.no.elim
        | los os => exact c.no.elim
    · exact c.no.elim
    · exact c.no.elim
    · exact c.no.elim
    · rename_i w' hw hp hk ht
      cases w with
      | ref n => exact absurd rfl (hw n)
      | pack n => exact absurd rfl (hp n)
      | lock n => exact absurd rfl (hk n)
      | tpk n => exact absurd rfl (ht n)
      | dat d => exact c.fin (leave_ext x) R (RD.sub sub rv)
      | ins C fs =>
        obtain ⟨a, dx, gs, e1, n, q, rf⟩ := rv
        exact c.fin (leave_ext x) R ⟨a, dx, gs, e1, fun z => n (sub a z), q, rf.to fun _ _ => RD.sub sub⟩
      | objs os => exact c.fin (leave_ext x) R (RWs.to (show RWs _ _ _ _ from rv) (fun b _ _ n z => n (sub b z)) (fun _ _ q _ _ => q) fun _ _ => RD.sub sub)
      | exc k C fs =>
        obtain ⟨a, d, gs, e1, r1⟩ := rv
        exact c.fin (leave_ext x) R ⟨a, d, gs, e1, r1.to (fun b _ _ n z => n (sub b z)) (fun _ _ q _ _ => q) fun _ _ => RD.sub sub⟩
      | scr ns =>
        obtain ⟨a, o, e1, n, q⟩ := rv
        exact c.fin (leave_ext x) R ⟨a, o, e1, fun z => n (sub a z), q⟩
  · exact c.no.elim
end
theorem rs_start {M : Mm} {H : Hp} {vs : List V} {ws : List W} (r : RVs M H vs ws) (n : Nat) : RS M H (ws.map some ++ List.replicate n none) (vs.map some ++ List.replicate n none) := by
  refine ⟨by simp [r.length], ?_⟩
  induction r with
  | nil =>
    intro i w e
    rw [List.map_nil, List.nil_append, List.getElem?_replicate] at e
    split at e <;> cases e
  | cons a t ih =>
    intro i w e
    cases i with
    | zero => simp at e; subst e; exact ⟨_, rfl, a⟩
    | succ i => exact ih i w (by simpa using e)
theorem rvs3 {M : Mm} {H : Hp} {vs : List V} {a b c : W} (r : RVs M H vs [a, b, c]) : ∃ x y z, vs = [x, y, z] ∧ RV M H x a ∧ RV M H y b ∧ RV M H z c := by
  cases r with
  | cons ra r => cases r with
    | cons rb r => cases r with
      | cons rc r => cases r; exact ⟨_, _, _, rfl, ra, rb, rc⟩
theorem ds_par3 {X : Cx} {i j l : Nat} {st : Stmt} {g : AM} (h : PS X st (tPar3 i j l (tA g))) : DS X st (sPar g [i, j, l]) := h.weak fun D σ H => by
  rintro ⟨M, h, ρ, r, rs, p⟩
  obtain ⟨ws, h1, e1, p1⟩ := p.bind
  refine ⟨M, h, ρ, r, rs, ws, h1, e1, fun M1 H1 vs x1 r1 v1 => ?_⟩
  split at p1
  · rename_i hz
    match ws, hz, v1, p1 with
    | [w1, w2, w3], _, v1, p1 =>
      obtain ⟨a, b, c, rfl, ra, rb, rc⟩ := rvs3 v1
      exact ⟨a, b, c, rfl, p1 M1 H1 _ x1.same x1.ext r1 ((((rs.mono x1).set ra).set rb).set rc)⟩
  · exact p1.elim
end DL
set_option maxRecDepth 100000
set_option maxHeartbeats 400000
namespace DL
open PySem PySem.Spec PyProof.Rows L2
variable [HW]
def dcL (k : TM) (t : BM) (fk fv : EM) (ρ : Env) : List D → List (D × D) → Hh → Option (List (D × D) × Hh)
  | [], es, h => some (es, h)
  | d :: ds, es, h => match k (.dat d) ρ h with
    | some ρ1 => obnd (t ρ1 h) fun b h2 => if b = true then obnd (fk ρ1 h2) fun w h3 => obnd (fv ρ1 h3) fun v h4 => match w, v with
        | .dat kd, .dat d' => match dKey kd with
          | some key => if es.length < sizeLine then dcL k t fk fv ρ ds (putK' es key d') h4 else none
          | none => none
        | _, _ => none
      else dcL k t fk fv ρ ds es h2
    | none => none
def fDc (m : Bool) (gi : IM) (k : TM) (t : BM) (fk fv : EM) (vs : List Nat) : EM := fun ρ h => obnd (gi ρ h) fun ds h1 => obnd (dcL k t fk fv (wipeE ρ vs) ds [] h1) fun es h2 => mkK m es h2
theorem dc_imp {gi : IM} {k : TM} {t : BM} {fk fv : EM} {ts vs : List Nat} {m : Bool} (hs : ∀ j ∈ ts, j ∈ vs) : ∀ σ H Q, tE (fDc m gi k t fk fv vs) σ H Q → tDc (tI gi) (tGd ts k) (tT t) (tE fk) (tE fv) vs σ H Q := fun σ H Q => by
  rintro ⟨M, h, ρ, r, rs, c⟩
  obtain ⟨ds, h1, e1, c1⟩ := Cont.bind (δ := Unit) c
  refine ⟨M, h, ρ, ds, h1, r, rs, e1, fun M1 H1 J x1 r1 it D nD => ?_⟩
  obtain ⟨out, h2, e2, c2⟩ := Cont.bind (δ := Unit) (c1 M1 H1 x1)
  have x0 := ext_made (M := M1) (o := .dK []) nD
  have r0 := r1.make (o := .dK []) nD
  have rs0 : RS (M1.made D) (upd H1 D (.dK [])) (wipeE ρ vs) (L2.wipe σ vs) := ((rs.mono x1).moveu x0 rfl).wipe vs
  let P : Nat → Hp → Prop := fun i Hi => ∃ mi hi acc dacc, ExtE M1 ⟨M1.u, mi⟩ H1 Hi ∧ Rep ⟨D :: M1.u, mi⟩ Hi hi ∧ RS ⟨D :: M1.u, mi⟩ Hi (wipeE ρ vs) (L2.wipe σ vs) ∧ Hi D = some (.dK acc) ∧ RDk ⟨D :: M1.u, mi⟩ Hi acc dacc ∧ dcL k t fk fv (wipeE ρ vs) (ds.drop i) dacc hi = some (out, h2)
  refine ⟨fun i n Hi => n + i = ds.length ∧ P i Hi, ⟨ds.length, by omega, M1.m, h1, [], [], (ExtE.refl M1 H1).beside nD, r0, rs0, upd_same, .nil, by rw [List.drop_zero]; exact e2⟩, fun i n Hi w => ?_⟩
  obtain ⟨hn, mi, hi, acc, dacc, xi, ri, rsi, hD, qa, el⟩ := w
  have inD : D ∈ (⟨D :: M1.u, mi⟩ : Mm).u := List.mem_cons_self
  obtain ⟨ity, its⟩ := it _ Hi (xi.into nD) fun a ha => ri.tracked ha
  by_cases hlt : i < ds.length
  · refine .inr ?_
    have ed : ds[i]? = some ds[i] := List.getElem?_eq_getElem hlt
    obtain ⟨go, yl⟩ := ity i _ ed
    rw [List.drop_eq_getElem_cons hlt] at el
    refine ⟨go, P (i + 1), fun H' p => ⟨n - 1, by omega, by omega, p⟩, fun x H2 hy => ?_⟩
    obtain ⟨sm, rx⟩ := yl x H2 hy
    obtain ⟨ri2, xi2⟩ := ri.grow sm
    unfold dcL at el
    split at el
    · rename_i ρ1 ek
      refine ⟨_, hi, wipeE ρ vs, .dat ds[i], ρ1, ri2, rsi.mono xi2, rx, ek, fun σ2 rs2 l2 o2 => ⟨wipe_of (by rw [l2, L2.wipe_length]) o2 hs, ?_⟩⟩
      cases et : t ρ1 hi with
      | none => rw [et] at el; cases el
      | some pr =>
        obtain ⟨b, h3⟩ := pr
        rw [et] at el
        simp only [obnd_some] at el
        refine ⟨_, hi, ρ1, ri2, rs2, b, h3, et, fun M3 H3 b' x3 r3 eb => ?_⟩
        subst eb
        obtain ⟨u3, m3⟩ := M3
        obtain rfl : u3 = D :: M1.u := x3.same
        have xi3 : ExtE M1 ⟨M1.u, m3⟩ H1 H3 := xi.trans ((xi2.trans x3).reu M1.u)
        have hD3 : H3 D = some (.dK acc) := x3.stab _ _ (sm _ _ hD) fun z => (ri.us D inD).1 z
        cases b' with
        | false =>
          simp only [Bool.false_eq_true, if_false] at el
          exact iteF ⟨m3, h3, acc, dacc, xi3, r3, (rsi.mono xi2).mono x3, hD3, (qa.mono xi2.ext).mono x3.ext, el⟩
        | true =>
          simp only [if_true] at el
          refine iteT ?_
          cases ef : fk ρ1 h3 with
          | none => rw [ef] at el; cases el
          | some pr =>
            obtain ⟨w, h4⟩ := pr
            rw [ef] at el
            simp only [obnd_some] at el
            refine ⟨_, h3, ρ1, r3, rs2.mono x3, w, h4, ef, fun M4 H4 y x4 r4 ry => ?_⟩
            obtain ⟨u4, m4⟩ := M4
            obtain rfl : u4 = D :: M1.u := x4.same
            have hD4 : H4 D = some (.dK acc) := x4.stab _ _ hD3 fun z => (r3.us D List.mem_cons_self).1 z
            cases eg : fv ρ1 h4 with
            | none => rw [eg] at el; cases el
            | some pr =>
              obtain ⟨w', h5⟩ := pr
              rw [eg] at el
              simp only [obnd_some] at el
              refine ⟨_, h4, ρ1, r4, (rs2.mono x3).mono x4, w', h5, eg, fun M5 H5 z x5 r5 rz => ?_⟩
              obtain ⟨u5, m5⟩ := M5
              obtain rfl : u5 = D :: M1.u := x5.same
              have hD5 : H5 D = some (.dK acc) := x5.stab _ _ hD4 fun z => (r4.us D List.mem_cons_self).1 z
              split at el
              · rename_i kd d'
                split at el
                · rename_i key ekey
                  split at el
                  · rename_i hz
                    have := kP_dKey ekey
                    subst this
                    have ry' : RD ⟨D :: M1.u, m5⟩ H5 y (kP key) := (show RD _ _ y _ from ry).mono x5.ext
                    have q5 := (((qa.mono xi2.ext).mono x3.ext).mono x4.ext).mono x5.ext
                    have in5 : D ∈ (⟨D :: M1.u, m5⟩ : Mm).u := List.mem_cons_self
                    exact ⟨acc, key, rd_kP ry', hD5, by rw [qa.length]; exact hz, m5, h5, _, putK' dacc key d', ((xi3.trans (x4.reu M1.u)).trans (x5.reu M1.u)).beside nD, r5.off in5, ((((rsi.mono xi2).mono x3).mono x4).mono x5).off in5, upd_same, (q5.put key rz).off in5, el⟩
                  · cases el
                · cases el
              · cases el
    · cases el
  · refine .inl ?_
    have hi' : i = ds.length := by omega
    subst hi'
    rw [List.drop_length] at el
    cases el
    refine ⟨its, ?_⟩
    have c3 := c2 M1 H1 (.refl _ _)
    have nu : D ∉ M1.u := fun z => r1.new nD (.inl z)
    have nm : some D ∉ mi := (ri.us D inD).1
    cases m with
    | false => exact c3.fin xi ri.told (RD.dic (fun z => z.elim nu nm) hD (qa.sub less_has))
    | true =>
      refine c3.fin (M' := ⟨M1.u, mi ++ [some D]⟩) ⟨rfl, xi.trk, xi.stab, fun a z => ?_, Nat.le_trans xi.len (by simp), fun j hj => ?_⟩ (ri.owned nu ⟨acc, hD, qa⟩) ⟨D, ?_, rfl⟩
      · rcases List.mem_append.mp z with z | z
        · exact xi.fresh a z
        · have : a = D := by simpa using z
          rw [this]; exact .inr nD
      · have hl : j < mi.length := Nat.lt_of_lt_of_le hj xi.len
        show (mi ++ [some D])[j]? = _
        rw [List.getElem?_append_left hl]; exact xi.pre j hj
      · show (mi ++ [some D])[h2.length]? = _
        rw [← show mi.length = h2.length from ri.len]; simp
section
variable {X : Cx}
theorem d_dc (m : Bool) {kx vx tg iter : Expr} {ifs : List Expr} {scope : Scope} {own : List (Str × Nat)} {pos : Pos} {gi : IM} {ts : List Nat} {k : TM} {t : BM} {fk fv : EM} (hc : X.calm = true) (hN : X.N.Nodup) (hi : DI X tg iter gi) (ok : BlkOk X.N X.env.scope scope own)
    (hg : ∀ (s : Shared) (H : Hp) (C : Addr) (cl : List (Str × Addr)) (fp : List Addr), DG (X.blk s H scope (compEnvC scope cl C X.env) fp) tg ts k) (ht : ∀ (s : Shared) (H : Hp) (C : Addr) (cl : List (Str × Addr)) (fp : List Addr), DTs (X.blk s H scope (compEnvC scope cl C X.env) fp) ifs t)
    (hk : ∀ (s : Shared) (H : Hp) (C : Addr) (cl : List (Str × Addr)) (fp : List Addr), DE (X.blk s H scope (compEnvC scope cl C X.env) fp) kx fk) (he : ∀ (s : Shared) (H : Hp) (C : Addr) (cl : List (Str × Addr)) (fp : List Addr), DE (X.blk s H scope (compEnvC scope cl C X.env) fp) vx fv)
    (hsub : ∀ j ∈ ts, j ∈ own.map (·.2)) (hs : ∀ x, foldedSetIterable iter X.env x = pure x := by intro _; rfl) :
    DE X (.DictComp kx vx [⟨tg, iter, ifs, 0⟩] scope pos) (fDc m gi k t fk fv (own.map (·.2))) := (pe_dc hc hN hi ok hg ht hk he hs).weak (dc_imp hsub)
end
end DL
set_option maxRecDepth 100000
set_option maxHeartbeats 400000
namespace DL
open PySem PySem.Spec PyProof.Rows L2
variable [HW]
structure RG (k : Nat) (A : Around) : Prop where
  room : Room k A
  gd : A.guards = some []
theorem RG.mono {j k : Nat} {A : Around} (r : RG k A) (h : j ≤ k) : RG j A := ⟨r.room.mono h, r.gd⟩
structure FnG (P : Program) (w : World) (K : PySem.W.Frag) (mg : Str → Option Value) (base : Heap) (C : CXT) (k : Nat) (f : Addr) (fd : FuncData) (ps : List Str) (sp : Sp) : Prop where
  len : ∀ vs H Q E, sp vs H Q E → vs.length = ps.length
  run : ∀ (A : Around) (outer : List PySem.Env) (s : Shared) (H : Hp) (args : Args) (us : List Value) (vs : List V) (Q : VK) (E : XK), RG k A → Env0 P w K mg base A outer s H → BindsTo s fd args (ps.zip us) → Vals vs us →
    sp vs H Q E → codeAny (model P w) A (.call (.ref f) args) (CR C outer P w H s Q E) s
section
variable {P : Program} {w : World} {K : PySem.W.Frag} {mg : Str → Option Value} {base : Heap}
theorem fn_g0 {x qual : Str} {st : Stmt} {f : Addr} {fd : FuncData} {N ps : List Str} {k : Nat} {sp : Sp} (F : Fun K x qual st f fd) (S : FnScope N ps (defScope st)) (len : ∀ vs H Q E, sp vs H Q E → vs.length = ps.length)
    (hb : ∀ (cdv : Value), fd.code = cdv → ∀ (A : Around) (outer : List PySem.Env) (s : Shared) (H : Hp) (vs : List V) (Q : VK) (E : XK), RG k (A.deeper (envOfC qual (defScope st) s.heap.objs.size f cdv)) → sp vs H Q E →
      ∃ t, PSs (cxOf CX0 P w K mg base N qual (defScope st) f cdv A outer s H E).nox (defBody st) t ∧ t { nx := fun _ H' => Q .non H', rt := Q } (L2.start N vs) H) : FnG P w K mg base CX0 (k + 1) f fd ps sp := by
  obtain ⟨oc, od, kV, doc, pm, an, cdv, ct, osl, rfl, lk, hcd⟩ := F.ex
  constructor
  · exact len
  intro A outer s H args us vs Q E rg e0 bd vl q
  have kin : K.In s.heap := e0.mod.kin.keeps fun b o e => (e0.bs b o e).1
  have nl : s.heap.NoLimit := e0.mod.nolimit.keeps fun b o e => (e0.bs b o e).1
  have kinds : ∀ y ∈ ps.zip us, (defScope st).names.lookup y.1 = some .local ∨ ((defScope st).names.lookup y.1 = some .cell ∧ ((PySem.cellsFrom (s.heap.objs.size + 1) (defScope st).names []).lookup y.1).isSome = true) := by
    intro y hy
    have hp : y.1 ∈ ps := (List.of_mem_zip (show (y.1, y.2) ∈ ps.zip us from hy)).1
    rcases S.par y.1 hp with h | h
    · left; exact h
    · right; exact ⟨h, PySem.W.cellsFrom_some _ _ _ (.inl h)⟩
  apply codeAny_call_function rg.room.depth (kin _ _ lk) rfl S.co S.gen rfl (PySem.W.codeRec_of kin hcd)
  apply bd
  apply wpAny_newFunctionEnv_cells S.kind kinds
  intro env he s1 hx
  subst he
  constructor
  · exact nl.keeps hx.toInCall.keep
  apply codeAny_func
  obtain ⟨t, ht, hq⟩ := hb cdv rfl A outer s H vs Q E ⟨rg.room.deeper _, rg.gd⟩ q
  have I0 := inv_start (CX := CX0) (E := E) S rg.room.hd e0 (len _ _ _ _ q) vl hx
  apply wpAny_mono (ht.nox.run [] s1 _ H _ I0 hq)
  · intro fl s' hs
    cases fl
    case ret u => obtain ⟨v, σ', H', J, rv, q'⟩ := hs; exact ⟨v, H', J.os, J.bare, J.base, J.hok, rv, q'⟩
    case next => obtain ⟨σ', H', J, q'⟩ := hs; exact ⟨.non, H', J.os, J.bare, J.base, J.hok, rfl, q'⟩
    case brk => obtain ⟨_, _, _, q'⟩ := hs; exact q'.elim
    case cont => obtain ⟨_, _, _, q'⟩ := hs; exact q'.elim
  · intro e s' hs; exact hs
structure GD (P : Program) (w : World) (K : PySem.W.Frag) (mg : Str → Option Value) (base : Heap) (k : Nat) (x : Str) (st : Stmt) (ps : List Str) (m : FM) : Prop where
  ex : ∃ (f : Addr) (fd : FuncData), Fun K x x st f fd ∧ mg x = some (.ref f) ∧ FnG P w K mg base CX0 k f fd ps (spD m)
theorem fng_ok0 {x : Str} {st : Stmt} {f : Addr} {fd : FuncData} {N ps : List Str} {k : Nat} {body : SM} (rm : Bool) (F : Fun K x x st f fd) (S : FnScope N ps (defScope st))
    (hb : ∀ (cdv : Value), fd.code = cdv → ∀ (A : Around) (outer : List PySem.Env) (s : Shared) (H : Hp) (E : XK), RG k (A.deeper (envOfC x (defScope st) s.heap.objs.size f cdv)) → DSs (cxOf CX0 P w K mg base N x (defScope st) f cdv A outer s H E).nox (defBody st) body) :
    FnG P w K mg base CX0 (k + 1) f fd ps (spD (fnM rm ps.length N.length body)) := by
  refine fn_g0 F S (fun vs H Q E q => ?_) (fun cdv ec A outer s H vs Q E hr q => ?_)
  · obtain ⟨M, h, ws, rep, rv, c⟩ := q
    unfold fnM at c
    split at c
    · rename_i hl
      rw [rv.length]; exact hl
    · exact c.no.elim
  · obtain ⟨M, h, ws, rep, rv, c⟩ := q
    unfold fnM at c
    split at c
    · rename_i hl
      refine ⟨_, hb cdv ec A outer s H E hr, M, h, ws.map some ++ List.replicate (N.length - ps.length) none, rep, ?_, ?_⟩
      · have e : L2.start N vs = vs.map some ++ List.replicate (N.length - ps.length) none := by unfold L2.start; rw [rv.length, hl]
        rw [e]
        exact rs_start rv _
      · cases eb : body (ws.map some ++ List.replicate (N.length - ps.length) none) h with
        | none => rw [eb] at c; exact c.no.elim
        | some pr =>
          obtain ⟨o, h'⟩ := pr
          rw [eb] at c
          cases o with
          | nx ρ => exact fun M1 H1 σ u x1 r1 rs1 => leave_ok x1 u rep r1 (show RV M1 H1 .non (.dat .none) from .non) c
          | rt w => exact fun M1 H1 v u x1 r1 v1 => leave_ok x1 u rep r1 v1 c
          | bk ρ => exact c.no.elim
          | ct ρ => exact c.no.elim
    · exact c.no.elim
theorem fng_ok {x : Str} {st : Stmt} {f : Addr} {fd : FuncData} {N ps : List Str} {k : Nat} {body : SM} (rm : Bool) (F : Fun K x x st f fd) (S : FnScope N ps (defScope st))
    (hb : ∀ (cdv : Value) (A : Around) (outer : List PySem.Env) (s : Shared) (H : Hp) (E : XK), RG k (A.deeper (envOfC x (defScope st) s.heap.objs.size f cdv)) → DSs (cxOf CX0 P w K mg base N x (defScope st) f cdv A outer s H E).nox (defBody st) body) :
    FnG P w K mg base CX0 (k + 1) f fd ps (spD (fnM rm ps.length N.length body)) := fng_ok0 rm F S fun cdv _ => hb cdv
theorem gd_ok {x : Str} {st : Stmt} {f : Addr} {fd : FuncData} {N ps : List Str} {k : Nat} {body : SM} (rm : Bool) (F : Fun K x x st f fd) (hm : mg x = some (.ref f)) (S : FnScope N ps (defScope st))
    (hb : ∀ (cdv : Value) (A : Around) (outer : List PySem.Env) (s : Shared) (H : Hp) (E : XK), RG k (A.deeper (envOfC x (defScope st) s.heap.objs.size f cdv)) → DSs (cxOf CX0 P w K mg base N x (defScope st) f cdv A outer s H E).nox (defBody st) body) :
    GD P w K mg base (k + 1) x st ps (fnM rm ps.length N.length body) := ⟨f, fd, F, hm, fng_ok rm F S hb⟩
theorem GD.no {x : Str} {st : Stmt} {f : Addr} {fd : FuncData} {ps : List Str} {k : Nat} (F : Fun K x x st f fd) (hm : mg x = some (.ref f)) : GD P w K mg base k x st ps (fun _ _ => none) :=
  ⟨f, fd, F, hm, fun _ _ _ _ ⟨_, _, _, _, _, c⟩ => c.no.elim, fun _ _ _ _ _ _ _ _ _ _ _ _ _ ⟨_, _, _, _, _, c⟩ => c.no.elim⟩
end
section
variable {X : Cx} {k : Nat} {f : Addr} {fd : FuncData} {ps : List Str} {m : FM} {x : Str} {p pos : Pos} {e : Expr} {es : List Expr} {g : AM} {st : Stmt}
theorem run_g {sp : Sp} {pins : List (Addr × Obj)} {σ : L2.St} {H : Hp} {s : Shared} {Q : VK} {args : Args} {us : List Value} {vs : List V} (F : FnG X.prog X.w X.K X.mg X.base CX0 k f fd ps sp) (hr : RG k X.A)
    (I : Inv X pins σ H s) (hb : BindsTo s fd args (ps.zip us)) (r : Vals vs us) (h : sp vs H Q E0) : codeAny (model X.prog X.w) X.A (.call (.ref f) args) (fun r s' => match r with
      | .ok (.ret u) => EP X pins σ Q u s'
      | _ => False) s := by
  apply codeAny_mono (F.run X.A X.stack s H args us vs Q E0 hr I.env0 hb r h)
  intro r s' hq
  cases r with
  | error e => exact hq
  | ok fl =>
    cases fl with
    | ret u => exact I.after hq
    | next => exact hq
    | brk => exact hq
    | cont => exact hq
theorem d_call' (G : GD X.prog X.w X.K X.mg X.base k x st ps m) (hr : RG k X.A) (ha : DA X (e :: es) g)
    (hbd : ∀ (kV doc pm : Value) (an : Option Addr) (cdv ct : Value) (us : List Value), us.length = ps.length → bindArgs (PySem.W.fnOf x x (defArgs st) (defBody st) (defScope st) .none kV doc pm an cdv ct) ⟨us, []⟩ = pure (ps.zip us))
    (hg : Gl X x := by rfl)
    (hdb : (x == ("__debug__" : Str)) = false := by decide) (he : starEach (e :: es) X.env = (false, eval e X.env) :: starEach es X.env := by rfl) (hpl : (backTo pos (starEach es X.env)).any (·.1) = false := by rfl) : DE X (.Call (.Name x p) (e :: es) [] pos) (fA m g) := by
  obtain ⟨f, fd, F, hm, G⟩ := G.ex
  refine ⟨fun pins s σ H Q I q => ?_⟩
  obtain ⟨M, h, ρ, r, rs, c⟩ := q
  obtain ⟨ws, h1, e1, c1⟩ := Cont.bind (δ := Unit) c
  apply wpAny_Call_Name_kw
  apply ld_glob I hg hm _ hdb
  apply PySem.W.callWith_K (h₀ := X.base) I.ok.mod.kin F.kp _ he hpl
  refine thn (ha.run pos pins s σ H (fun vs H1 => spD m vs H1 Q E0) I ⟨M, h, ρ, r, rs, ws, h1, e1, fun M1 H1 vs x1 r1 v1 => ⟨M1, h1, ws, r1, v1, c1 M1 H1 x1⟩⟩) fun us s1 ⟨vs, H1, I1, rv, q⟩ => ⟨I1.kIn, ?_⟩
  have hl : us.length = ps.length := by rw [← rv.length]; exact G.len _ _ _ _ q
  apply wpAny_call
  have bd := (F.binds (ps := ps) hbd) s1 us I1.kIn (by simpa using hl)
  rw [List.append_nil] at bd
  apply codeAny_mono (run_g G hr I1 bd rv q)
  intro r s' hq
  cases r with
  | error e => exact hq.elim
  | ok fl =>
    cases fl with
    | ret u => exact hq
    | next => exact hq
    | brk => exact hq
    | cont => exact hq
def permL {α : Type} (is : List Nat) (ws : List α) : Option (List α) := (is.map fun i => ws[i]?).foldr (fun o r => match o, r with
    | some w, some l => some (w :: l)
    | _, _ => none) (some [])
def permM (is : List Nat) (m : FM) : FM := fun ws h => match permL is ws with
  | some l => m l h
  | none => none
theorem permL_cons {α : Type} (i : Nat) (is : List Nat) (ws : List α) : permL (i :: is) ws = match ws[i]?, permL is ws with
    | some w, some l => some (w :: l)
    | _, _ => none := rfl
def kwM (n : Nat) (is : List Nat) (m : FM) : FM := fun ws h => if ws.length = n then permM is m ws h else none
theorem permL_rvs {M : Mm} {H : Hp} {vs : List V} {ws : List W} (r : RVs M H vs ws) : ∀ {is : List Nat} {l : List W}, permL is ws = some l → ∃ l', permL is vs = some l' ∧ RVs M H l' l
  | [], l, e => by cases e; exact ⟨[], rfl, .nil⟩
  | i :: is, l, e => by
    rw [permL_cons] at e
    cases e1 : ws[i]? with
    | none => rw [e1] at e; cases e
    | some w =>
      cases e2 : permL is ws with
      | none => rw [e1, e2] at e; cases e
      | some l0 =>
        rw [e1, e2] at e
        cases e
        obtain ⟨l', h1, h2⟩ := permL_rvs r e2
        obtain ⟨v, h3, h4⟩ : ∃ v, vs[i]? = some v ∧ RV M H v w := by
          clear e2 h1 h2
          induction r generalizing i with
          | nil => simp at e1
          | cons a t ih => cases i with
            | zero => simp at e1; subst e1; exact ⟨_, rfl, a⟩
            | succ i => exact ih i (by simpa using e1)
        exact ⟨v :: l', by rw [permL_cons, h3, h1], .cons h4 h2⟩
theorem permL_vals {vs : List V} {us : List Value} (r : Vals vs us) : ∀ {is : List Nat} {l : List V}, permL is vs = some l → ∃ l', permL is us = some l' ∧ Vals l l'
  | [], l, e => by cases e; exact ⟨[], rfl, .nil⟩
  | i :: is, l, e => by
    rw [permL_cons] at e
    cases e1 : vs[i]? with
    | none => rw [e1] at e; cases e
    | some w =>
      cases e2 : permL is vs with
      | none => rw [e1, e2] at e; cases e
      | some l0 =>
        rw [e1, e2] at e
        cases e
        obtain ⟨l', h1, h2⟩ := permL_vals r e2
        obtain ⟨v, h3, h4⟩ : ∃ v, us[i]? = some v ∧ RelV w v := by
          clear e2 h1 h2
          induction r generalizing i with
          | nil => simp at e1
          | cons a t ih => cases i with
            | zero => simp at e1; subst e1; exact ⟨_, rfl, a⟩
            | succ i => exact ih i (by simpa using e1)
        exact ⟨v :: l', by rw [permL_cons, h3, h1], .cons h4 h2⟩
theorem d_callK {kws : List Keyword} {ks : List Str} {is : List Nat} (G : GD X.prog X.w X.K X.mg X.base k x st ps m) (hr : RG k X.A) (ha : DK X kws g)
    (hbd : ∀ (kV doc pm : Value) (an : Option Addr) (cdv ct : Value) (us l : List Value), us.length = ks.length → permL is us = some l → bindArgs (PySem.W.fnOf x x (defArgs st) (defBody st) (defScope st) .none kV doc pm an cdv ct) ⟨[], ks.zip us⟩ = pure (ps.zip l))
    (hkl : kws.length = ks.length)
    (hall : (backToKw pos (keywordEach kws X.env)).all (·.1.isSome) = true := by rfl) (hks : (backToKw pos (keywordEach kws X.env)).filterMap (·.1) = ks := by rfl)
    (hpl : ((backTo pos (starEach [] X.env)).any (·.1) || (backToKw pos (keywordEach kws X.env)).any (·.1.isNone)) = false := by rfl)
    (hg : Gl X x := by rfl) (hdb : (x == ("__debug__" : Str)) = false := by decide) : DE X (.Call (.Name x p) [] kws pos) (fA (kwM ks.length is m) g) := by
  obtain ⟨f, fd, F, hm, G⟩ := G.ex
  refine ⟨fun pins s σ H Q I q => ?_⟩
  obtain ⟨M, h, ρ, r, rs, c⟩ := q
  obtain ⟨ws, h1, e1, c1⟩ := Cont.bind (δ := Unit) c
  apply wpAny_Call_Name_kw
  apply ld_glob I hg hm _ hdb
  apply PySem.W.callWith_KW0 (h₀ := X.base) I.ok.mod.kin F.kp hall _ hpl
  refine thn (ha.run pos pins s σ H (fun vs H1 => vs.length = ks.length ∧ ∃ l, permL is vs = some l ∧ spD m l H1 Q E0) I ⟨M, h, ρ, r, rs, ws, h1, e1, fun M1 H1 vs x1 r1 v1 => ?_⟩) fun us s1 ⟨vs, H1, I1, rv, hlen, l, el, q⟩ => ⟨I1.kIn, ?_⟩
  · have c2 := c1 M1 H1 x1
    unfold kwM at c2
    split at c2
    · rename_i hw
      refine ⟨by rw [v1.length]; exact hw, ?_⟩
      unfold permM at c2
      split at c2
      · rename_i l el
        obtain ⟨l', h2, h3⟩ := permL_rvs v1 el
        exact ⟨l', h2, M1, h1, l, r1, h3, c2⟩
      · exact c2.no.elim
    · exact c2.no.elim
  · obtain ⟨l', h2, h3⟩ := permL_vals rv el
    have hl : us.length = ks.length := by rw [← rv.length]; exact hlen
    rw [hks]
    apply wpAny_call
    have bd : BindsTo s1 fd ⟨[], ks.zip us⟩ (ps.zip l') := by
      obtain ⟨oc, od, kV, doc, pm, an, cdv, ct, osl, rfl, lk, hcd⟩ := F.ex
      exact .of_eq (hbd kV doc pm an cdv ct us l' hl h2)
    apply codeAny_mono (run_g G hr I1 bd h3 q)
    intro r s' hq
    cases r with
    | error e => exact hq.elim
    | ok fl =>
      cases fl with
      | ret u => exact hq
      | next => exact hq
      | brk => exact hq
      | cont => exact hq
end
end DL
set_option maxRecDepth 100000
set_option maxHeartbeats 400000
namespace DL
open PySem PySem.Spec PyProof.Rows L2
variable [HW]
section
variable {prog : Program} {w : World} {A : Around} {E : Value → Shared → Prop} {s : Shared}
theorem fm_congr {α β : Type} {f g : α → Option β} : ∀ {l : List α}, (∀ a ∈ l, f a = g a) → l.filterMap f = l.filterMap g
  | [], _ => rfl
  | a :: l, h => by rw [List.filterMap_cons, List.filterMap_cons, h a List.mem_cons_self, fm_congr fun b hb => h b (List.mem_cons_of_mem _ hb)]
theorem adjust_back (n : Nat) : Builtin.Slice.sliceAdjust none none (-1) (n : Int) = ((n : Int) - 1, -1) := by
  simp [Builtin.Slice.sliceAdjust]
theorem places_back (n : Nat) : Builtin.Slice.slicePlaces ((n : Int) - 1) (-1) (-1) = n := by
  unfold Builtin.Slice.slicePlaces
  by_cases h : n = 0
  · subst h; decide
  · simp
    omega
theorem pick_back (xs : Array Value) : ((List.range xs.size).filterMap fun (m : Nat) => xs[(((xs.size : Int) - 1) + (m : Int) * -1).toNat]?).toArray = xs.toList.reverse.toArray := by
  have e : ((List.range xs.size).filterMap fun (m : Nat) => xs[(((xs.size : Int) - 1) + (m : Int) * -1).toNat]?) = ((List.range xs.size).map fun k => xs.size - 1 - k).filterMap (xs[·]?) := by
    rw [List.filterMap_map]
    apply fm_congr
    intro k hk
    have := List.mem_range.mp hk
    have e : (((xs.size : Int) - 1) + (k : Int) * -1).toNat = xs.size - 1 - k := by omega
    simp only [e, Function.comp]
  rw [e, PySem.W.krv_range, List.filterMap_reverse, PySem.W.krv_all]
theorem tup_back {t sl : Addr} {items : Array Value} {vl vu vs : Value} {Q : Value → Shared → Prop} (ht : IsTup s.heap t items) (hs : s.heap.IsSliceOf sl vl vu vs) (pl : IsPart vl none) (pu : IsPart vu none) (ps : IsPart vs (some (-1)))
    (h : Q (.ref s.heap.objs.size) { s with heap := s.heap.push { cls := .type "tuple", data := .seq items.toList.reverse.toArray } })
    (hsz : items.size ≤ sizeLine) : wpAny (model prog w) A (getItem (.ref t) (.ref sl)) Q E s := by
  have hz : sizeOk (.seq items.toList.reverse.toArray) := by
    show items.toList.reverse.toArray.size ≤ sizeLine
    rw [List.size_toArray, List.length_reverse, Array.length_toList]; exact hsz
  obtain ⟨os, h1, h2, h3⟩ := id hs
  have ty : s.TypeIs (.ref sl) "slice" := ⟨os, h1, h2⟩
  unfold getItem
  try with_reducible refine wpAny_holding ?_
  first | refine wpAny_bind (wpAny_pure ?_) | skip
  apply wpAny_bind
  apply wpAny_sequenceKey ht.typeIs (by decide)
  apply wpAny_bind
  apply wpAny_callSpecial?_slot (name := Str.ofString "__getitem__") ht.typeIs PyProof.Rows.slot_tuple_getitem
  apply wpAny_call_entry PyProof.Rows.slot_tuple_getitem ht.typeIs entry_tuple_getitem _ (args_tuple_getitem _ _)
  show wpAny _ _ (Builtin.Tuple.tupleItemsOf (.ref t) >>= _) _ _ s
  apply wpAny_bind
  apply tupleItemsOf_ ht
  apply wpAny_bind
  apply wpAny_typeOf ty
  rw [if_pos (by decide)]
  apply wpAny_bind
  unfold Builtin.Slice.sliceApplied Builtin.Slice.sliceFields
  refine wpAny_bind (wpAny_bind (wpAny_field h1 h3 (x := vl) rfl (wpAny_bind (wpAny_field h1 h3 (x := vu) rfl (wpAny_bind (wpAny_field h1 h3 (x := vs) rfl (wpAny_pure ?_)))))))
  refine wpAny_bind (HT.slicePart_ ps ?_)
  show wpAny _ _ (if ((-1 : Int) == 0) = true then _ else _) _ _ s
  rw [if_neg (by decide)]
  refine wpAny_bind (HT.slicePart_ pl (wpAny_bind (HT.slicePart_ pu (wpAny_bind (wpAny_pure ?_)))))
  show wpAny _ _ (match Builtin.Slice.sliceAdjust none none (-1) (items.size : Int) with | (lo, hi) => pure (lo, (-1 : Int), Builtin.Slice.slicePlaces lo hi (-1))) _ _ s
  rw [adjust_back]
  show wpAny _ _ (pure (((items.size : Int) - 1), (-1 : Int), Builtin.Slice.slicePlaces ((items.size : Int) - 1) (-1) (-1))) _ _ s
  rw [places_back]
  apply wpAny_pure
  show wpAny _ _ (if (((items.size : Int) - 1) == 0 && (-1 : Int) == 1 && items.size == items.size) = true then _ else _) _ _ s
  rw [if_neg (by simp), pick_back]
  first
    | exact wpAny_bind (m := Builtin.Tuple.tupleExact _) (wpAny_newObj_type (wpAny_pure ⟨_, rfl, wpAny_pure h⟩) hz)
    | exact wpAny_bind (m := Builtin.Tuple.tupleExact _) (wpAny_newObj_type (wpAny_bind (wpAny_pure (wpAny_pure ⟨_, rfl, wpAny_pure h⟩))) hz)
    | exact wpAny_bind (wpAny_bind (m := Builtin.Tuple.tupleExact _) (wpAny_newObj_type (wpAny_pure (wpAny_pure ⟨_, rfl, wpAny_pure h⟩)) hz))
    | exact wpAny_bind (wpAny_bind (m := Builtin.Tuple.tupleExact _) (wpAny_newObj_type (wpAny_pure ⟨_, rfl, wpAny_pure h⟩) hz))
end
section
variable {X : Cx}
def revS (z : Str) : Str := ⟨z.cps.toList.reverse.toArray⟩
def tBack (K : PySem.W.Frag) (te : TE) : TE := fun σ H Q => te σ H fun x H1 => (∃ a xs, x = .ref a ∧ SqL K H1 a xs ∧ ∀ p, H1 p = none → Q (.ref p) (upd H1 p (.lst xs.reverse))) ∨ (∃ a xs, x = .ref a ∧ SqT K H1 a xs ∧ ∃ b : Bool, ∀ p o, H1 p = none → o.dict = none → Q (.ref p) (upd H1 p (bareO b o xs.reverse))) ∨
  ∃ z, x = .str z ∧ z.length ≤ sizeLine ∧ Q (.str (revS z)) H1
theorem rev_made (z : Str) (t u : Tok) : sliceMade z t none none (some (-1, u)) = .str (revS z) := by
  unfold sliceMade slicePicked
  simp only [Option.map_some, Option.getD_some, Option.map_none]
  rw [if_neg (by simp), picked_rev]
  congr 2
  have e : z.length = z.cps.size := rfl
  rw [e, PySem.W.krv_range, List.filterMap_reverse, PySem.W.krv_all]
theorem pe_back {e : Expr} {te : TE} {k : Nat} {p1 p2 p3 pos : Pos} (he : PE X e te) : PE X (.Subscript e (.Slice none none (some (.UnaryOp .USub (.Constant (.int 1) k p1) p2)) p3) pos) (tBack X.K te) := by
  constructor
  intro pins s σ H Q I h
  apply Subscript_
  refine thn (he.run pins s σ H _ I h) fun v s1 ⟨x, H1, I1, r1, q1⟩ => ?_
  have step : PO X (some (.UnaryOp .USub (.Constant (.int 1) k p1) p2)) (tPart (tUn (rU fun i => .int (-i)) (tC (.int 1)))) := po_some (pe_un un_neg pe_int)
  apply wpAny_Slice
  refine thn (po_none.run pins s1 σ H1 (fun o G => o = none ∧ G = H1) I1 ⟨rfl, rfl⟩) fun vl s2 ⟨l, H2, I2, pl, el, e2⟩ => ?_
  subst el e2
  refine thn (po_none.run pins s2 σ H2 (fun o G => o = none ∧ G = H2) I2 ⟨rfl, rfl⟩) fun vu s3 ⟨u, H3, I3, pu, eu, e3⟩ => ?_
  subst eu e3
  refine thn (step.run pins s3 σ H3 (fun o G => o = some (-1) ∧ G = H3) I3 ⟨1, rfl, -1, rfl, rfl, rfl⟩) fun vs s4 ⟨o, H4, I4, ps, eo, e4⟩ => ?_
  subst eo e4
  have I5 : Inv X pins σ H4 { s4 with heap := s4.heap.push { cls := .type "slice", data := .fields #[vl, vu, vs] } } := I4.kept (t' := s4.toks) fun b ob q => Heap.get?_push_of_some _ q
  rcases q1 with ⟨a, xs, rfl, hx, q⟩ | ⟨a, xs, rfl, hx, bb, q⟩ | ⟨z, rfl, hz, q⟩
  · cases r1
    obtain ⟨its, r, ht, hz⟩ := I5.list hx
    have hlen := r.length
    apply tail_any (ops := [.ref a, .ref s4.heap.objs.size]) ht.isList.typeIs (PySem.slot_list_getitem.lookup) _ (by with_unfolding_all rfl)
    apply wpAny_getItem_list_slice ht.isList (Heap.IsSliceOf.new _ vl vu vs) pl pu ps (by decide) _ (by rw [List.size_toArray]; omega)
    rw [PySem.W.krv_pick]
    refine ⟨.ref _, _, I5.laid (t' := s4.toks) (o := .lst xs.reverse) (fun b ob q => Heap.get?_push_of_some _ q) (Nat.le_refl _) ?_, rfl, q _ (I5.hok.fresh (Nat.le_refl _))⟩
    exact ⟨by rw [List.length_reverse]; exact hz, _, 0, r.reverse, Heap.get?_push_size _ rfl⟩
  · cases r1
    obtain ⟨its, r, ht, hz⟩ := I5.tuple hx
    have hlen := r.length
    apply tail_any (ops := [.ref a, .ref s4.heap.objs.size]) ht.typeIs (PyProof.Rows.slot_tuple_getitem.lookup) _ (by with_unfolding_all rfl)
    apply tup_back ht (Heap.IsSliceOf.new _ vl vu vs) pl pu ps _ (by rw [List.size_toArray]; omega)
    exact ⟨.ref _, _, I5.laid (t' := s4.toks) (o := bareO bb _ xs.reverse) (fun b ob q => Heap.get?_push_of_some _ q) (Nat.le_refl _) (bare_ok bb (Heap.get?_push_size _ rfl) fun G => ⟨by rw [List.length_reverse]; exact hz, _, by simpa using r.reverse, IsTup.new _ _⟩), rfl, q _ _ (I5.hok.fresh (Nat.le_refl _)) rfl⟩
  · obtain ⟨t, rfl⟩ := r1
    apply tail_any (ops := [.str z t, .ref s4.heap.objs.size]) (typeIs_str _ _ _) (F.slot_str_getitem.lookup) _ (by with_unfolding_all rfl)
    obtain ⟨os, hos, hcs, hds⟩ := Heap.IsSliceOf.new s4.heap vl vu vs
    obtain ⟨l, rfl, el⟩ := IsPart.raw pl
    obtain ⟨u, rfl, eu⟩ := IsPart.raw pu
    obtain ⟨st, rfl, es⟩ := IsPart.raw ps
    have hl : l = none := by cases l with | none => rfl | some _ => cases el
    have hu : u = none := by cases u with | none => rfl | some _ => cases eu
    obtain ⟨tk, hst⟩ : ∃ tk, st = some (-1, tk) := by
      cases st with
      | none => cases es
      | some p => obtain ⟨i, tk⟩ := p; simp at es; exact ⟨tk, by rw [es]⟩
    subst hl hu hst
    apply wpAny_getItem_str_slice (l := none) (u := none) (st := some (-1, tk)) ⟨os, hos, hcs, hds⟩ rfl
    rw [rev_made]
    refine ⟨?_, .str _, H4, I5.tok _, ⟨_, rfl⟩, q⟩
    show (revS z).cps.size ≤ sizeLine
    simp only [revS, List.size_toArray, List.length_reverse, Array.length_toList]
    exact hz
def backW (m : Bool) (w : W) (h : Hh) : Option (W × Hh) := match w with
  | .dat (.list ds) => mkL m ds.reverse h
  | .dat (.tuple ds) => some (.dat (.tuple ds.reverse), h)
  | .dat (.str z) => if z.length ≤ sizeLine then some (.dat (.str (revS z)), h) else none
  | .ref n => match lstAt h n with
    | some ds => mkL m ds.reverse h
    | none => none
  | _ => none
def fRev (m : Bool) (f : EM) : EM := fun ρ h => obnd (f ρ h) fun w h1 => backW m w h1
theorem d_rev (m : Bool) {e : Expr} {f : EM} {k : Nat} {p1 p2 p3 pos : Pos} (he : DE X e f) : DE X (.Subscript e (.Slice none none (some (.UnaryOp .USub (.Constant (.int 1) k p1) p2)) p3) pos) (fRev m f) := (pe_back he).weak fun σ H Q => by
  rintro ⟨M, h, ρ, r, rs, c⟩
  obtain ⟨w, h1, e1, c1⟩ := Cont.bind (δ := Unit) c
  refine ⟨M, h, ρ, r, rs, w, h1, e1, fun M1 H1 v x1 r1 v1 => ?_⟩
  have c2 := c1 M1 H1 x1
  unfold backW at c2
  split at c2
  · cases (show RD M1 H1 _ _ from v1) with
    | lst n e q => exact .inl ⟨_, _, rfl, .of e, fun p np => mkL_fin r1 np q.rev c2⟩
  · cases (show RD M1 H1 _ _ from v1) with
    | tup n e q => exact .inr (.inl ⟨_, _, rfl, e.sq, _, fun p o np ho => mkB_fin r1 np q.rev ho c2⟩)
  · split at c2
    · rename_i hz
      cases (show RD M1 H1 _ _ from v1)
      exact .inr (.inr ⟨_, rfl, hz, c2.here r1 (.str _)⟩)
    · exact c2.no.elim
  · split at c2
    · rename_i n ds el
      obtain ⟨a, ea, rfl⟩ := v1
      obtain ⟨xs, hx, q⟩ := lstAt_ok r1 el ea
      exact .inl ⟨_, _, rfl, .of hx, fun p np => mkL_fin r1 np q.rev c2⟩
    · exact c2.no.elim
  · exact c2.no.elim
def rRepr (K : PySem.W.Frag) : List V → Hp → VK → Prop := fun xs H Q => ∃ a d, xs = [.ref a] ∧ Dp K H (.ref a) d ∧ shp d = true ∧ d.showable = true ∧ d.shown.length ≤ sizeLine ∧ Q (.str d.shown) H
theorem cr_repr {k : Nat} (hr : RG k X.A) : CallR X (.builtin "repr") (rRepr X.K) := by
  intro pins s σ H xs us Q I r h
  obtain ⟨a, d, rfl, dp, sh, hs, hz, q⟩ := h
  obtain rfl := Vals.ref1 r
  obtain ⟨as, rd⟩ := Dp.reads I d _ _ dp rfl
  have hd := SeqAt.depth_of_shaped sh
  apply repr_of_reads' rd hs (PyData.noDict_hsm (PyData.hasDict_of_canLay d (SeqAt.canLay_of_shaped sh))) hr.gd _ (fun _ _ e => e) _ hz
  · have := hr.room.un; omega
  · intro h' u tk hk
    exact ⟨.str _, H, I.kept hk, ⟨u, rfl⟩, q⟩
end
end DL
set_option maxRecDepth 100000
set_option maxHeartbeats 400000
namespace DL
open PySem PySem.Spec PyProof.Rows L2
variable [HW]
structure Bi (mg : Str → Option Value) : Prop where
  len : mg "len" = none
  abs : mg "abs" = none
  int : mg "int" = none
  max : mg "max" = none
  min : mg "min" = none
  all : mg "all" = none
  any : mg "any" = none
  sum : mg "sum" = none
  tuple : mg "tuple" = none
  list : mg "list" = none
  dict : mg "dict" = none
  sorted : mg "sorted" = none
  isinstance : mg "isinstance" = none
  str : mg "str" = none
  bool : mg "bool" = none
  range : mg "range" = none
  enumerate : mg "enumerate" = none
  zip : mg "zip" = none
  reversed : mg "reversed" = none
  repr : mg "repr" = none
  set : mg "set" = none
section
variable {X : Cx} {p pos : Pos} {e e2 : Expr} {es : List Expr} {g : AM} {f : EM}
theorem bt_int : bootBuiltins "int" = some (.type "int") := by decide +kernel
theorem bt_str : bootBuiltins "str" = some (.type "str") := by decide +kernel
theorem bt_list : bootBuiltins "list" = some (.type "list") := by decide +kernel
theorem bt_tuple : bootBuiltins "tuple" = some (.type "tuple") := by decide +kernel
theorem bt_bool : bootBuiltins "bool" = some (.type "bool") := by decide +kernel
theorem d_abs (hm : X.mg "abs" = none) (ha : DA X [e] g) (hg : Gl X "abs" := by rfl) (he : starEach [e] X.env = (false, eval e X.env) :: starEach [] X.env := by rfl) (hpl : (backTo pos (starEach [] X.env)).any (·.1) = false := by rfl) : DE X (.Call (.Name "abs" p) [e] [] pos) (fA absW g) :=
  d_callB call_abs s_abs hm (by decide +kernel) ha hg (by decide) (by decide) he hpl
theorem d_max (hc : X.calm = true) (hm : X.mg "max" = none) (ha : DA X [e, e2] g) (hg : Gl X "max" := by rfl) (he : starEach [e, e2] X.env = (false, eval e X.env) :: starEach [e2] X.env := by rfl) (hpl : (backTo pos (starEach [e2] X.env)).any (·.1) = false := by rfl) : DE X (.Call (.Name "max" p) [e, e2] [] pos) (fA maxW g) :=
  d_callB (call_max2 hc) s_max hm (by decide +kernel) ha hg (by decide) (by decide) he hpl
theorem d_min (hc : X.calm = true) (hm : X.mg "min" = none) (ha : DA X [e, e2] g) (hg : Gl X "min" := by rfl) (he : starEach [e, e2] X.env = (false, eval e X.env) :: starEach [e2] X.env := by rfl) (hpl : (backTo pos (starEach [e2] X.env)).any (·.1) = false := by rfl) : DE X (.Call (.Name "min" p) [e, e2] [] pos) (fA minW g) :=
  d_callB (call_min2 hc) s_min hm (by decide +kernel) ha hg (by decide) (by decide) he hpl
theorem d_all (hc : X.calm = true) (hm : X.mg "all" = none) (ha : DA X [e] g) (hg : Gl X "all" := by rfl) (he : starEach [e] X.env = (false, eval e X.env) :: starEach [] X.env := by rfl) (hpl : (backTo pos (starEach [] X.env)).any (·.1) = false := by rfl) : DE X (.Call (.Name "all" p) [e] [] pos) (fA allW g) :=
  d_callB (cr_all hc) s_all hm (by decide +kernel) ha hg (by decide) (by decide) he hpl
theorem d_intC (hm : X.mg "int" = none) (ha : DA X [e] g) (hg : Gl X "int" := by rfl) (he : starEach [e] X.env = (false, eval e X.env) :: starEach [] X.env := by rfl) (hpl : (backTo pos (starEach [] X.env)).any (·.1) = false := by rfl) : DE X (.Call (.Name "int" p) [e] [] pos) (fA intC g) :=
  d_callT call_int1 s_intC hm bt_int ha hg (by decide) (by decide) he hpl
theorem d_tuple (hm : X.mg "tuple" = none) (ha : DA X [e] g) (hg : Gl X "tuple" := by rfl) (he : starEach [e] X.env = (false, eval e X.env) :: starEach [] X.env := by rfl) (hpl : (backTo pos (starEach [] X.env)).any (·.1) = false := by rfl) : DE X (.Call (.Name "tuple" p) [e] [] pos) (fA tupleW g) :=
  d_callT call_tupB s_tuple hm bt_tuple ha hg (by decide) (by decide) he hpl
theorem d_list (m : Bool) (hm : X.mg "list" = none) (ha : DA X [e] g) (hg : Gl X "list" := by rfl) (he : starEach [e] X.env = (false, eval e X.env) :: starEach [] X.env := by rfl) (hpl : (backTo pos (starEach [] X.env)).any (·.1) = false := by rfl) : DE X (.Call (.Name "list" p) [e] [] pos) (fA (listW m) g) :=
  d_callT call_list_of (s_list m) hm bt_list ha hg (by decide) (by decide) he hpl
end
def noList (K : PySem.W.Frag) : Bool := K.all fun p => match p.2.cls with
  | .type "list" => false
  | _ => true
theorem lookup_mem {K : PySem.W.Frag} {a : Addr} {o : Obj} (e : K.lookup a = some o) : (a, o) ∈ K := by
  induction K with
  | nil => cases e
  | cons p r ih =>
    obtain ⟨b, u⟩ := p
    rw [List.lookup_cons] at e
    split at e
    · rename_i q
      have : a = b := by simpa using q
      cases e
      subst this
      exact List.mem_cons_self
    · exact List.mem_cons_of_mem _ (ih e)
end DL
set_option maxRecDepth 100000
set_option maxHeartbeats 1000000
namespace DL
open PySem PySem.Spec PyProof.Rows L2
variable [HW]
end DL
set_option maxRecDepth 100000
set_option maxHeartbeats 400000
namespace DL
open PySem PySem.Spec PyProof.Rows L2
variable [HW]
def enumA (g : AM) : IM := fun ρ h => obnd (g ρ h) fun ws h1 => match ws with
  | [.dat (.list ds)] => some (enumD 0 ds, h1)
  | [.dat (.tuple ds)] => some (enumD 0 ds, h1)
  | _ => none
end DL
set_option maxRecDepth 100000
set_option maxHeartbeats 400000
namespace DL
open PySem PySem.Spec PyProof.Rows L2
variable [HW]
def moD : MO → D
  | .lst ds => .list ds
  | .dic es => .dict es
  | .dit es => .dict ((.none, .none) :: es)
  | .tab _ _ => .none
  | .ins _ _ => .none
  | .obj _ _ => .none
  | .los _ => .none
def isTab : MO → Bool
  | .tab _ _ => true
  | .ins _ _ => true
  | .obj _ _ => true
  | .los _ => true
  | .dit _ => true
  | _ => false
def isR (n : Nat) : Option W → Bool
  | some (.ref m) => decide (m = n)
  | some (.pack _) => true
  | some (.tpk its) => its.any fun z => match z with | .inl m => decide (m = n) | .inr _ => false
  | _ => false
theorem isR_tpk {n : Nat} {its : List (Sum Nat D)} (h : ¬ isR n (some (.tpk its)) = true) : ∀ m, Sum.inl m ∈ its → m ≠ n := fun m hm e => h (List.any_eq_true.mpr ⟨_, hm, by simp [e]⟩)
def frz (i : Nat) (ρ : Env) (h : Hh) : Option (Env × Hh) := match ρ[i]? with
  | some (some (.ref n)) => match h[n]? with
    | some (some o) => if ((ρ.set i none).any (isR n) || isTab o) = true then none else some (ρ.set i (some (.dat (moD o))), h.set n none)
    | _ => none
  | _ => none
def sFrz (i : Nat) (f : SM) : SM := fun ρ h => match frz i ρ h with
  | some (ρ', h') => f ρ' h'
  | none => none
section
variable {M : Mm} {H : Hp} {h : Hh}
theorem less_set {n : Nat} : ∀ b, Mm.Has ⟨M.u, M.m.set n none⟩ b → M.Has b := fun b z => by
  rcases z with z | z
  · exact .inl z
  · right
    rcases List.mem_or_eq_of_mem_set z with q | q
    · exact q
    · cases q
theorem not_set {n : Nat} {a : Addr} (rep : Rep M H h) (e : M.m[n]? = some (some a)) : ¬ Mm.Has ⟨M.u, M.m.set n none⟩ a := fun z => by
  rcases z with z | z
  · exact (rep.us a z).1 (List.mem_of_getElem? e)
  · obtain ⟨i, hi, q⟩ := List.getElem_of_mem z
    have q' : (M.m.set n none)[i]? = some (some a) := by rw [List.getElem?_eq_getElem hi, q]
    by_cases hn : n = i
    · subst hn
      have hi' : n < M.m.length := lt_of_get e
      rw [List.getElem?_set_self hi'] at q'
      cases q'
    · rw [List.getElem?_set_ne hn] at q'
      exact hn (rep.inj i n a q' e).symm
theorem ext_frz {n : Nat} : Ext M ⟨M.u, M.m.set n none⟩ H H where
  us := fun _ m => .inl m
  trk := fun a o e => ⟨o, e⟩
  stab := fun _ _ e _ => e
  fresh := fun a m => by
    rcases List.mem_or_eq_of_mem_set m with q | q
    · exact .inl q
    · cases q
  len := by simp
  kill := fun i hi => by
    by_cases hn : n = i
    · subst hn
      right
      show (M.m.set n none)[n]? = _
      rw [List.getElem?_set_self hi]
    · left
      show (M.m.set n none)[i]? = _
      rw [List.getElem?_set_ne hn]
theorem Rep.frz {n : Nat} {a : Addr} (rep : Rep M H h) (e : M.m[n]? = some (some a)) : Rep ⟨M.u, M.m.set n none⟩ H (h.set n none) := by
  have hn : n < h.length := by rw [← rep.len]; exact lt_of_get e
  refine ⟨fun b z => ?_, by simpa using rep.len, fun i j b q1 q2 => ?_, fun i b q => ?_, fun i q => ?_⟩
  · obtain ⟨h1, h2⟩ := rep.us b z
    refine ⟨fun y => h1 ?_, h2⟩
    rcases List.mem_or_eq_of_mem_set y with q | q
    · exact q
    · cases q
  · have g : ∀ (k : Nat), (M.m.set n none)[k]? = some (some b) → M.m[k]? = some (some b) := fun k q => by
      by_cases hk : n = k
      · subst hk
        rw [List.getElem?_set_self (lt_of_get e)] at q
        cases q
      · rwa [List.getElem?_set_ne hk] at q
    exact rep.inj i j b (g i q1) (g j q2)
  · have hk : n ≠ i := fun z => by
      subst z
      have q' : (M.m.set n none)[n]? = some (some b) := q
      rw [List.getElem?_set_self (lt_of_get e)] at q'
      cases q'
    have q' : M.m[i]? = some (some b) := by
      have z : (M.m.set n none)[i]? = some (some b) := q
      rwa [List.getElem?_set_ne hk] at z
    obtain ⟨o, ho, ro⟩ := rep.at_ i b q'
    exact ⟨o, by rw [List.getElem?_set_ne hk]; exact ho, ro.sub less_set fun k _ z q => by
      by_cases y : n = k
      · subst y; exact .inr (List.getElem?_set_self (List.getElem?_eq_some_iff.mp q).1)
      · exact .inl (by rw [List.getElem?_set_ne y]; exact q)⟩
  · have q' : (M.m.set n none)[i]? = some none := q
    by_cases hk : n = i
    · subst hk
      rw [List.getElem?_set_self hn]
    · rw [List.getElem?_set_ne hk] at q' ⊢
      exact rep.dead i q'
theorem RS.frz {n i : Nat} {a : Addr} {o : MO} {ρ : Env} {σ : L2.St} (rep : Rep M H h) (rs : RS M H ρ σ) (e : M.m[n]? = some (some a)) (er : ρ[i]? = some (some (.ref n))) (ro : RO M H a o) (hn : ¬ ((ρ.set i none).any (isR n)) = true) (ht : isTab o = false) :
    RS ⟨M.u, M.m.set n none⟩ H (ρ.set i (some (.dat (moD o)))) σ := by
  refine ⟨by simp [rs.1], fun j w q => ?_⟩
  by_cases hj : i = j
  · subst hj
    rw [List.getElem?_set_self (lt_of_get er)] at q
    cases q
    obtain ⟨v, ev, a', ea, rfl⟩ := rs.2 i _ er
    rw [e] at ea
    cases ea
    refine ⟨_, ev, ?_⟩
    cases o with
    | lst ds => obtain ⟨xs, hx, qx⟩ := ro; exact RD.lst (not_set rep e) hx (qx.sub less_set)
    | dic ds => obtain ⟨xs, hx, qx⟩ := ro; exact RD.dic (not_set rep e) hx (qx.sub less_set)
    | dit ds => exact absurd ht (by simp [isTab])
    | tab q P => exact absurd ht (by simp [isTab])
    | ins C fs => exact absurd ht (by simp [isTab])
    | obj C fs => exact absurd ht (by simp [isTab])
    | los os => exact absurd ht (by simp [isTab])
  · rw [List.getElem?_set_ne hj] at q
    obtain ⟨v, ev, rv⟩ := rs.2 j w q
    refine ⟨v, ev, ?_⟩
    cases w with
    | dat d => exact RD.sub less_set rv
    | ins C fs =>
      obtain ⟨b, u, gs, e1, n1, q1, r1⟩ := rv
      exact ⟨b, u, gs, e1, fun z => n1 (less_set b z), q1, r1.to fun _ _ => RD.sub less_set⟩
    | objs os => exact RWs.to (show RWs _ _ _ _ from rv) (fun b _ _ n z => n (less_set b z)) (fun _ _ q _ _ => q) fun _ _ => RD.sub less_set
    | exc k C fs =>
      obtain ⟨b, d, gs, e1, r1⟩ := rv
      exact ⟨b, d, gs, e1, r1.to (fun c _ _ n z => n (less_set c z)) (fun _ _ q _ _ => q) fun _ _ => RD.sub less_set⟩
    | tpk its =>
      obtain ⟨b, xs, e1, n1, q1, r1⟩ := rv
      exact ⟨b, xs, e1, fun z => n1 (less_set b z), q1, r1.moveI (fun _ _ => RD.sub less_set) fun m hm' a' ea' => by
        have hne := isR_tpk (fun y => hn (List.any_eq_true.mpr ⟨some (.tpk its), List.mem_of_getElem? (i := j) (by rw [List.getElem?_set_ne hj]; exact q), y⟩)) m hm'
        show (M.m.set n none)[m]? = _
        rw [List.getElem?_set_ne (Ne.symm hne)]; exact ea'⟩
    | pack its =>
      exact absurd (List.any_eq_true.mpr ⟨some (.pack its), List.mem_of_getElem? (i := j) (by rw [List.getElem?_set_ne hj]; exact q), rfl⟩) hn
    | lock es =>
      obtain ⟨b, u, kvs, e1, n1, q1, r1⟩ := rv
      exact ⟨b, u, kvs, e1, fun z => n1 (less_set b z), q1, r1.sub less_set⟩
    | scr ns =>
      obtain ⟨b, u, e1, n1, q1⟩ := rv
      exact ⟨b, u, e1, fun z => n1 (less_set b z), q1⟩
    | ref k =>
      obtain ⟨b, eb, rfl⟩ := rv
      have hk : n ≠ k := fun z => by
        subst z
        apply hn
        rw [List.any_eq_true]
        refine ⟨some (.ref n), ?_, by simp [isR]⟩
        exact List.mem_of_getElem? (i := j) (by rw [List.getElem?_set_ne hj]; exact q)
      exact ⟨b, by show (M.m.set n none)[k]? = _; rw [List.getElem?_set_ne hk]; exact eb, rfl⟩
end
theorem ds_frz {X : Cx} {sts : List Stmt} {f : SM} (i : Nat) (hd : DSs X sts f) : DSs X sts (sFrz i f) := PSs.weak hd fun D σ H => by
  rintro ⟨M, h, ρ, rep, rs, p⟩
  unfold sFrz at p
  split at p
  · rename_i ρ' h' ef
    unfold frz at ef
    split at ef
    · rename_i n er
      split at ef
      · rename_i o eo
        split at ef
        · cases ef
        · rename_i hn
          cases ef
          obtain ⟨v, ev, a, ea, rfl⟩ := rs.2 i _ er
          obtain ⟨o', ho', ro⟩ := rep.at_ n a ea
          rw [eo] at ho'
          cases ho'
          simp only [Bool.or_eq_true, not_or, Bool.not_eq_true] at hn
          exact ⟨_, _, _, rep.frz ea, rs.frz rep ea er ro (by simpa using hn.1) hn.2, p.mono rfl ext_frz⟩
      · cases ef
    · cases ef
  · exact p.elim
end DL
set_option maxRecDepth 100000
set_option maxHeartbeats 1000000
namespace DL
open PySem PySem.Spec PyProof.Rows L2
variable [HW]
end DL
set_option maxRecDepth 100000
set_option maxHeartbeats 1000000
namespace DL
open PySem PySem.Spec PyProof.Rows L2
variable [HW]
end DL
set_option maxRecDepth 100000
set_option maxHeartbeats 1000000
namespace DL
open PySem PySem.Spec PyProof.Rows L2
variable [HW]
end DL
set_option maxRecDepth 100000
set_option maxHeartbeats 1000000
namespace DL
open PySem PySem.Spec PyProof.Rows L2
variable [HW]
theorem law_gT {P : Program} {w : World} {K : PySem.W.Frag} {mg mb : Str → Option Value} {k : Nat} {fa a : Addr} {fd : FuncData} {x : Str} {sp : Sp} {s₁ : Shared} {vs : List Value} {ns : List Int} {cs : List (Addr × Addr)}
    (kx : K.In s₁.heap) (hns : s₁.heap.Ns mainGlobals mg) (hb : s₁.heap.Ns builtinsNs mb) (hbb : ∀ x : Str, x ≠ "__name__" → mb x = bootBuiltins x) (hlim : s₁.heap.NoLimit) (hg : s₁.gens = #[])
    (hT : ∀ p ∈ cs, PySem.W.CodeHd s₁.heap p.1 p.2 ∧ s₁.heap.get? p.2 = some { cls := .none, data := .fields #[] }) (nT : ∀ p ∈ cs, K.lookup p.2 = none)
    (hbm : ∃ (bm : Addr) (ob : Obj), mg "__builtins__" = some (.ref bm) ∧ bm ≠ builtinsNs ∧ s₁.heap.get? bm = some ob ∧ ob.cls = .type "module" ∧ ob.dict = some builtinsNs ∧ ob.data = .plain)
    (ha : s₁.heap.get? a = some { cls := .type "list", data := .seq vs.toArray }) (hi : IntsAre vs ns) (hl : ns.length ≤ sizeLine) (hr : Room k callerA)
    (F : ∀ base : Heap, K.In base → base.Ns mainGlobals mg → (∀ p ∈ cs, LamX.TabB base mg p.1 p.2) → FnG P w K mg base CX0 k fa fd [x] sp) (hbind : ∀ (s : Shared) (u : Value), BindsTo s fd ⟨[u], []⟩ [(x, u)])
    (hka : K.lookup a = none)
    (hsp : ∀ H : Hp, (∃ o, H a = some (.frz o (.lst (ns.map V.int)))) → (∀ p ∈ cs, H p.2 = some (.tbl #[])) → a ∉ cs.map (·.2) → sp [.ref a] H (fun v _ => v = .bl true) fun _ _ _ => False) :
    codeAny (model P w) callerA (.call (.ref fa) ⟨[.ref a], []⟩) (fun r s' => r = .ok (.ret (.bool true)) ∧ OldK s₁.heap s'.heap ∧ s'.os = s₁.os ∧ AllBare s'.gens) s₁ := by
  have rv := vals_ints hi
  let ob : Obj := { cls := .type "list", data := .seq vs.toArray }
  let H : Hp := fun b => if b = a then some (.frz ob (.lst (ns.map V.int))) else if b ∈ cs.map (·.2) then some (.tbl #[]) else none
  have tabs : ∀ b, b ∈ cs.map (·.2) → s₁.heap.get? b = some { cls := .none, data := .fields #[] } := fun b z => by
    obtain ⟨p, hp, rfl⟩ := List.mem_map.mp z
    exact (hT p hp).2
  have na : a ∉ cs.map (·.2) := fun z => by
    have y := tabs a z
    rw [ha] at y
    injection y with y
    injection y with _ _ y
    cases y
  have Ha : H a = some (.frz ob (.lst (ns.map V.int))) := if_pos rfl
  have Hc : ∀ b, b ∈ cs.map (·.2) → H b = some (.tbl #[]) := fun b z => by
    have h1 : b ≠ a := fun y => na (y ▸ z)
    show (if b = a then _ else if b ∈ cs.map (·.2) then _ else _) = _
    rw [if_neg h1, if_pos z]
  have Hn : ∀ b, b ≠ a → b ∉ cs.map (·.2) → H b = none := fun b h1 h2 => by
    show (if b = a then _ else if b ∈ cs.map (·.2) then _ else _) = _
    rw [if_neg h1, if_neg h2]
  have hok : HOk P w H s₁.heap := by
    intro b u e
    by_cases h : b = a
    · subst h
      rw [Ha] at e
      cases e
      exact ⟨ha, by rw [List.length_map]; exact hl, vs, _, rv, ha⟩
    · by_cases h2 : b ∈ cs.map (·.2)
      · rw [Hc b h2] at e
        cases e
        exact tabs b h2
      · rw [Hn b h h2] at e; cases e
  have hid : ∀ {b : Addr} {o : Obj}, s₁.heap.get? b = some o → H b = none → (hidT s₁.heap H).get? b = some o := fun e n => hidT_get e n
  have free : ∀ {b : Addr} {o : Obj}, s₁.heap.get? b = some o → (∀ vs n, o.data ≠ .seq vs n) → o.data ≠ .fields #[] → H b = none := by
    intro b o e h1 h2
    apply Hn
    · intro z
      subst z
      rw [ha] at e
      cases e
      exact h1 _ _ rfl
    · intro z
      rw [tabs b z] at e
      cases e
      exact h2 rfl
  have isd : ∀ {b : Addr} {o : Obj} {es : Array DictEntry} {ep : Nat}, s₁.heap.get? b = some o → o.data = .dict es ep → H b = none := by
    intro b o es ep e d
    apply free e
    · intro vs n z; rw [d] at z; cases z
    · intro z; rw [d] at z; cases z
  have nsk : ∀ {b : Addr} {m : Str → Option Value}, s₁.heap.Ns b m → (hidT s₁.heap H).Ns b m := fun {b m} q => by
    obtain ⟨o, es, ep, e, d, r⟩ := q
    exact ⟨o, es, ep, hid e (isd e d), d, r⟩
  have kb : K.In (hidT s₁.heap H) := by
    intro b o e
    apply hid (kx b o e)
    apply Hn
    · intro z
      subst z
      rw [hka] at e
      cases e
    · intro z
      obtain ⟨p, hp, rfl⟩ := List.mem_map.mp z
      rw [nT p hp] at e
      cases e
  have hM : Mod K mg (hidT s₁.heap H) := by
    refine ⟨kb, nsk hns, ⟨mb, nsk hb, hbb⟩, ?_⟩
    obtain ⟨mc, h1, h2⟩ := hlim
    exact ⟨mc, nsk h1, h2⟩
  have TB : ∀ p ∈ cs, LamX.TabB (hidT s₁.heap H) mg p.1 p.2 := by
    intro p hp
    obtain ⟨hc, ht⟩ := hT p hp
    constructor
    · obtain ⟨o, us, fi, tf, fl, tg, inF, tx, tt, e1, e2, e3, e4, r⟩ := hc
      refine ⟨o, us, fi, tf, fl, tg, inF, tx, tt, hid e1 (free e1 ?_ ?_), e2, e3, e4, r⟩
      · intro vs n z; rw [e3] at z; cases z
      · intro z
        rw [e3] at z
        injection z with z
        rw [z] at e4
        simp at e4
    · obtain ⟨bm, ob', b1, b2, b3, b4, b5, b6⟩ := hbm
      have n1 : bm ≠ mainGlobals := by
        intro z
        obtain ⟨o, es, ep, e, hd, _⟩ := hns
        rw [z, e] at b3
        cases b3
        rw [hd] at b6
        cases b6
      have n2 : bm ≠ p.2 := by
        intro z
        rw [z, ht] at b3
        cases b3
        cases b6
      refine ⟨bm, ob', b1, b2, n1, n2, hid b3 (free b3 ?_ ?_), b4, b5, b6⟩
      · intro vs n z; rw [b6] at z; cases z
      · intro z; rw [b6] at z; cases z
    · intro z
      obtain ⟨o, es, ep, e, hd, _⟩ := hns
      rw [z, ht] at e
      cases e
      cases hd
  have e0 : Env0 P w K mg (hidT s₁.heap H) callerA [] s₁ H := by
    refine ⟨rfl, hM, fun b o e => of_hidT e, Nat.le_of_eq (hidT_size _ _), trivial, fun b hb => ?_, hok, .of_eq hg⟩
    exact absurd (show b ∈ ([] : List Addr) from hb) (by simp)
  apply codeAny_mono ((F _ kb (nsk hns) TB).run callerA [] s₁ H ⟨[.ref a], []⟩ [.ref a] [.ref a] _ _ ⟨hr, rfl⟩ e0 (hbind s₁ (.ref a)) (.cons rfl .nil) (hsp H ⟨ob, Ha⟩ (fun p hp => Hc p.2 (List.mem_map.mpr ⟨p, hp, rfl⟩)) na))
  intro r s' h
  cases r with
  | error e => exact h.elim
  | ok fl => cases fl with
    | next => exact h.elim
    | brk => exact h.elim
    | cont => exact h.elim
    | ret u =>
      obtain ⟨v, H', os, bare, un, hok', r', q⟩ := h
      obtain rfl : v = .bl true := q
      obtain rfl : u = Value.bool true := r'
      have key : ∀ b o, b ∉ cs.map (·.2) → s₁.heap.get? b = some o → s'.heap.get? b = some o := by
        intro b o nb e
        by_cases hb' : b = a
        · subst hb'
          have z2 := un.frzs b ob _ Ha
          obtain ⟨e1, _⟩ := hok b _ Ha
          obtain ⟨e2, _⟩ := hok' b _ z2
          rw [e] at e1
          cases e1
          exact e2
        · exact un.keep b o e (Hn b hb' nb) (fun z => absurd (show b ∈ ([] : List Addr) from z) (by simp)) (by simp)
      have grown : ∀ p ∈ cs, ∃ more : Array Value, s'.heap.get? p.2 = some { cls := .none, data := .fields more } := by
        intro p hp
        obtain ⟨more, z⟩ := un.tbls p.2 #[] (Hc p.2 (List.mem_map.mpr ⟨p, hp, rfl⟩))
        exact ⟨_, hok' p.2 _ z⟩
      refine ⟨rfl, ⟨fun b o e => ?_, fun b o e => ?_⟩, os, bare⟩
      · by_cases hb' : b ∈ cs.map (·.2)
        · obtain ⟨p, hp, rfl⟩ := List.mem_map.mp hb'
          obtain ⟨more, hm⟩ := grown p hp
          rw [(hT p hp).2] at e
          cases e
          exact .inr (.inl ⟨((hT p hp).1.tab (hT p hp).2).isCodeTable, rfl, #[], more, rfl, by rw [Array.empty_append]; exact hm⟩)
        · exact .inl (key b o hb' e)
      · by_cases hb' : b ∈ cs.map (·.2)
        · obtain ⟨p, hp, rfl⟩ := List.mem_map.mp hb'
          obtain ⟨more, hm⟩ := grown p hp
          exact ⟨_, hm⟩
        · exact ⟨o, key b o hb' e⟩
end DL
set_option maxRecDepth 100000
set_option maxHeartbeats 1000000
namespace DL
open PySem PySem.Spec PyProof.Rows L2
variable [HW]
section
variable {X : Cx}
theorem d_gint {x : Str} {i : Int} {p : Pos} (hm : ∃ t, X.mg x = some (.int i t)) (hg : Gl X x := by rfl) (hd : (x == ("__debug__" : Str)) = false := by decide) : DE X (.Name x p) (fC (.int i)) := by
  obtain ⟨t, hm⟩ := hm
  exact (pe_glob (v := .int i) hg hm ⟨t, rfl⟩ hd).weak fun σ H Q => by
    rintro ⟨M, h, ρ, r, rs, c⟩
    exact c.fin (.refl _ _) r (.int _)
theorem d_gstr {x z : Str} {p : Pos} (hm : ∃ t, X.mg x = some (.str z t)) (hg : Gl X x := by rfl) (hd : (x == ("__debug__" : Str)) = false := by decide) : DE X (.Name x p) (fC (.str z)) := by
  obtain ⟨t, hm⟩ := hm
  exact (pe_glob (v := .str z) hg hm ⟨t, rfl⟩ hd).weak fun σ H Q => by
    rintro ⟨M, h, ρ, r, rs, c⟩
    exact c.fin (.refl _ _) r (.str _)
end
end DL
set_option maxRecDepth 100000
set_option maxHeartbeats 1000000
namespace DL
open PySem PySem.Spec PyProof.Rows L2
variable [HW]
section
variable {X : Cx}
theorem rowS_map : ∀ {ds : List D} {l : List Str}, rowS ds = some l → ds = l.map .str
  | [], _, e => by cases e; rfl
  | d :: ds, l, e => by
    unfold rowS at e
    split at e
    · rename_i q; cases q
    · rename_i a ds' q
      cases q
      simp only [Option.map_eq_some_iff] at e
      obtain ⟨l', e1, rfl⟩ := e
      rw [rowS_map e1]; rfl
    · cases e
theorem rowS_strs : ∀ l : List Str, rowS (l.map .str) = some l
  | [] => rfl
  | a :: l => by
    show (rowS (l.map .str)).map (a :: ·) = _
    rw [rowS_strs l]; rfl
theorem rds_strs {M : Mm} {H : Hp} : ∀ {xs : List V} {l : List Str}, RDs M H xs (l.map .str) → xs = l.map V.str
  | _, [], .nil => rfl
  | _, a :: l, .cons r t => by cases r; rw [rds_strs t]; rfl
def isTp (w : W) (h : Hh) : Bool := match deref h w with
  | some (.tuple ds) => rowD ds
  | _ => false
def tBT (r : V → List V → Hp → VK → Prop) (to : TE) (t : TA) : TE := fun σ H Q => to σ H fun x H1 => (∃ (a : Addr) (o : Obj) (xs : List V), x = .ref a ∧ o.dict = none ∧ H1 a = some (.frz o (.tup xs))) ∧ t σ H1 fun vs H2 => r x vs H2 Q
theorem pe_bt {o e : Expr} {to : TE} {t : TA} {name : Str} {apos cpos : Pos} {id : String} {r : V → List V → Hp → VK → Prop} (slot : Slot "tuple" name id) (hty : typeOf (.builtin id) = pure (.type "method_descriptor")) (hm : MtR X id r) (ho : PE X o to) (ha : PA X [e] t)
    (hb : attributeBase o name X.env (eval o X.env) = eval o X.env := by rfl) (hf : ((backTo cpos (starEach [e] X.env)).all (fun x => !x.1) && (backToKw cpos (keywordEach [] X.env)).all (fun x => x.1.isSome) && decide (([e] : List Expr).length + ([] : List Keyword).length + (if ([] : List Keyword).isEmpty then 0 else 1) < 30)) = true := by rfl)
    (hl : (apos.endLine == cpos.line) = true := by rfl) (hs : starEach [e] X.env = [(false, eval e X.env)] := by rfl) : PE X (.Call (.Attribute o name apos) [e] [] cpos) (tBT r to t) := by
  constructor
  rintro pins s σ H Q I h
  apply wpAny_Call_method_late hb hf hl rfl
  refine thn (ho.run pins s σ H _ I h) fun v s1 ⟨x, H1, I1, r1, ⟨a, ob, xs, ex, od, oa⟩, q1⟩ => ?_
  subst ex
  cases r1
  obtain ⟨g1, _, its, _, o', g2, hc, _⟩ := (show ObjOk X.prog X.w H1 s1.heap a (.frz ob (.tup xs)) from I1.hok a _ oa)
  rw [g1] at g2
  cases g2
  refine ⟨"tuple", id, PySem.F.plainAttrs_tuple, slot, hty, ⟨ob, g1, hc⟩, fun c e => by cases e; exact ⟨ob, g1, od⟩, ?_⟩
  have hA := ha.run cpos pins s1 σ H1 _ I1 q1
  rw [hs] at hA ⊢
  exact Calls.callWith_builtin (by rfl) (Calls.evalArgs_plain (thn hA fun us s2 ⟨vs, H2, I2, r2, q2⟩ => hm pins s2 σ H2 (.ref a) vs _ us Q I2 rfl r2 q2))
theorem rowD_call {ds : List D} (h : rowD ds = true) : callD ds = true := by unfold callD; rw [h, Bool.or_true]
end
end DL
set_option maxRecDepth 100000
set_option maxHeartbeats 1000000
namespace DL
open PySem PySem.Spec PyProof.Rows L2
variable [HW]
section
variable {X : Cx}
def rCntT (K : PySem.W.Frag) : V → List V → Hp → VK → Prop := fun x xs H Q => ∃ (p : Addr) (l : List Str) (z : Str), x = .ref p ∧ xs = [.str z] ∧ SqT K H p (l.map V.str) ∧ Q (.int (l.count z : Nat)) H
theorem reads_strT {h : Heap} : ∀ {l : List Str} {us : List Value}, Vals (l.map V.str) us → ReadsAll h us (l.map PyData.str) []
  | [], _, .nil => .nil
  | s :: l, _, .cons a t => by
    obtain ⟨k, rfl⟩ := a
    exact .cons (.str s k) (reads_strT t)
theorem plain_strT : ∀ l : List Str, PyData.plainAll (l.map PyData.str) = true
  | [] => rfl
  | s :: l => by rw [List.map_cons, PyData.plainAll, plain_strT l]; rfl
theorem deep_strT : ∀ l : List Str, PyData.depthAll (l.map PyData.str) = 0
  | [] => rfl
  | s :: l => by rw [List.map_cons, PyData.depthAll, deep_strT l]; rfl
theorem count_strT (z : Str) : ∀ l : List Str, ((l.map PyData.str).countP fun y => PyData.eqv y (.str z)) = l.count z
  | [] => rfl
  | s :: l => by
    have e : PyData.eqv (.str s) (.str z) = (s == z) := by rw [PyData.eqv]
    rw [List.map_cons, List.countP_cons, count_strT z l, List.count_cons, e]
theorem mt_cntT {k : Nat} (hr : RG k X.A) : MtR X "tuple.count" (rCntT X.K) := by
  intro pins s σ H x xs v us Q I rx rxs h
  obtain ⟨p, l, z, rfl, rfl, hs, q⟩ := h
  cases rx
  obtain ⟨u, rfl, ru⟩ := rxs.one
  obtain ⟨t, rfl⟩ := ru
  obtain ⟨its, rv, hl, _⟩ := I.tuple hs
  refine PySem.SeqAt.count_tuple_data (xs := l.map .str) (as := []) (d := .str z) (bs := []) hl (by simpa using reads_strT rv) (.str z t) (plain_strT l) rfl ?_ ?_
  · rw [deep_strT]
    have := hr.room.un
    simp only [Nat.zero_min]
    omega
  · rw [count_strT]
    exact ⟨.int (l.count z : Nat), H, I.tok _, ⟨s.toks, rfl⟩, q⟩
def countT (w : W) (ws : List W) (h : Hh) : Option (W × Hh) := match deref h w, ws with
  | some (.tuple ds), [.dat (.str z)] => match rowS ds with
    | some l => ok (.int (l.count z : Nat)) h
    | none => none
  | _, _ => none
theorem d_countT {k : Nat} (hr : RG k X.A) {o e : Expr} {apos cpos : Pos} {f : EM} {g : AM} (ho : DE X o f) (ha : DA X [e] g) (hb : attributeBase o "count" X.env (eval o X.env) = eval o X.env := by rfl)
    (hf : ((backTo cpos (starEach [e] X.env)).all (fun x => !x.1) && (backToKw cpos (keywordEach [] X.env)).all (fun x => x.1.isSome) && decide (([e] : List Expr).length + ([] : List Keyword).length + (if ([] : List Keyword).isEmpty then 0 else 1) < 30)) = true := by rfl)
    (hl : (apos.endLine == cpos.line) = true := by rfl) (hs : starEach [e] X.env = [(false, eval e X.env)] := by rfl) : DE X (.Call (.Attribute o "count" apos) [e] [] cpos) (fM isTp countT f g) :=
  (pe_bt (r := rCntT X.K) PySem.F.slot_tuple_count PySem.F.type_tuple_count (mt_cntT hr) ho ha hb hf hl hs).weak fun σ H Q => by
    rintro ⟨M, h, ρ, r, rs, c⟩
    obtain ⟨w, h1, e1, c1⟩ := Cont.bind (δ := Unit) c
    refine ⟨M, h, ρ, r, rs, w, h1, e1, fun M1 H1 v x1 r1 v1 => ?_⟩
    have c2 := c1 M1 H1 x1
    split at c2
    · rename_i ht
      have ht' : ∃ ds, deref h1 w = some (.tuple ds) ∧ rowD ds = true := by
        unfold isTp at ht
        split at ht
        · rename_i ds q; exact ⟨ds, q, ht⟩
        · cases ht
      obtain ⟨ds, q, hd⟩ := ht'
      obtain ⟨a, xs, rfl, na, hta, qa⟩ := rr_tup (deref_rr r1 v1 q)
      have hfz : ∃ ob : Obj, ob.dict = none ∧ H1 a = some (.frz ob (.tup xs)) := by
        rcases hta with ⟨hn, _⟩ | ⟨_, z⟩
        · rw [rowD_call hd] at hn; cases hn
        · exact z
      obtain ⟨ob, z1, z2⟩ := hfz
      refine ⟨⟨a, ob, xs, rfl, z1, z2⟩, M1, h1, ρ, r1, rs.mono x1, ?_⟩
      obtain ⟨w2, h2, e2, c3⟩ := Cont.bind (δ := Unit) c2
      refine ⟨w2, h2, e2, fun M2 H2 v2 x2 r2 q2 => ?_⟩
      have c4 := c3 M2 H2 x2
      have v2' := v1.mono x2
      unfold countT at c4
      split at c4
      · rename_i ds' wz z hq
        obtain ⟨b, ys, e3, nb, hb', qb⟩ := rr_tup (deref_rr r2 v2' hq)
        cases e3
        obtain ⟨y, rfl, ry⟩ := rvs1 q2
        split at c4
        · rename_i l hl'
          have := rowS_map hl'
          subst this
          have := rds_strs qb
          subst this
          cases (show RD M2 H2 y (.str z) from ry)
          exact ⟨a, l, z, rfl, rfl, hb'.sq, c4.here r2 (.int _)⟩
        · exact c4.no.elim
      · exact c4.no.elim
    · exact c2.no.elim
end
end DL
set_option maxRecDepth 100000
set_option maxHeartbeats 1000000
namespace DL
open PySem PySem.Spec PyProof.Rows L2
variable [HW]
section
variable {X : Cx} {p pos : Pos} {e : Expr} {g : AM}
def strIW (ws : List W) (h : Hh) : Option (W × Hh) := match ws with
  | [.dat (.int i)] => if i.natAbs.log2 < 1920 then ok (.str (toString i)) h else none
  | _ => none
theorem s_strI : SemA (fun xs H Q => ∃ i, xs = [.int i] ∧ i.natAbs.log2 < 1920 ∧ Q (.str (toString i)) H) strIW := by
  intro M H h vs ws Q rep rv c
  unfold strIW at c
  split at c
  · obtain ⟨v, rfl, r⟩ := rvs1 rv
    cases (show RD M H _ _ from r)
    split at c
    · rename_i hz
      exact ⟨_, rfl, hz, c.here rep (.str _)⟩
    · exact c.no.elim
  · exact c.no.elim
theorem d_strI (hm : X.mg "str" = none) (ha : DA X [e] g) (hg : Gl X "str" := by rfl) (he : starEach [e] X.env = (false, eval e X.env) :: starEach [] X.env := by rfl) (hpl : (backTo pos (starEach [] X.env)).any (·.1) = false := by rfl) : DE X (.Call (.Name "str" p) [e] [] pos) (fA strIW g) :=
  d_callT call_str_int s_strI hm bt_str ha hg (by decide) (by decide) he hpl
def fUp (f : EM) : EM := fun ρ h => obnd (f ρ h) fun w h1 => match w with
  | .dat (.str z) => if z.length ≤ 5592405 then ok (.str (Txt.upper z)) h1 else none
  | _ => none
theorem d_upper {o : Expr} {apos pos : Pos} {f : EM} (ho : DE X o f) (hbase : attributeBase o "upper" X.env (eval o X.env) = eval o X.env := by rfl) (hline : (apos.endLine == pos.line) = true := by rfl) :
    DE X (.Call (.Attribute o "upper" apos) [] [] pos) (fUp f) := (pe_upper ho hbase hline).weak fun σ H Q => by
  rintro ⟨M, h, ρ, r, rs, c⟩
  obtain ⟨w, h1, e1, c1⟩ := Cont.bind (δ := Unit) c
  refine ⟨M, h, ρ, r, rs, w, h1, e1, fun M1 H1 v x1 r1 v1 => ?_⟩
  have c2 := c1 M1 H1 x1
  split at c2
  · rename_i z
    cases (show RD M1 H1 v _ from v1)
    split at c2
    · rename_i hz
      exact ⟨⟨_, rfl⟩, _, rfl, rfl, hz, c2.fin (.refl _ _) r1 (show RV M1 H1 (.str _) (.dat (.str _)) from .str _)⟩
    · exact c2.no.elim
  · exact c2.no.elim
def fStrip (f g : EM) : EM := fun ρ h => obnd (f ρ h) fun w h1 => match w with
  | .dat (.str z) => obnd (g ρ h1) fun w2 h2 => match w2 with
    | .dat (.str y) => if z.length ≤ sizeLine then ok (.str (Txt.stripChars z y)) h2 else none
    | _ => none
  | _ => none
theorem d_strip {o : Expr} {apos pos : Pos} {f g : EM} (ho : DE X o f) (he : DE X e g) (hs : starEach [e] X.env = [(false, eval e X.env)] := by rfl) (hbase : attributeBase o "strip" X.env (eval o X.env) = eval o X.env := by rfl) (hline : (apos.endLine == pos.line) = true := by rfl) :
    DE X (.Call (.Attribute o "strip" apos) [e] [] pos) (fStrip f g) := (pe_m1 PySem.F.slot_str_strip PySem.F.type_str_strip mt_stripChars ho he hs hbase hline).weak fun σ H Q => by
  rintro ⟨M, h, ρ, r, rs, c⟩
  obtain ⟨w, h1, e1, c1⟩ := Cont.bind (δ := Unit) c
  refine ⟨M, h, ρ, r, rs, w, h1, e1, fun M1 H1 v x1 r1 v1 => ?_⟩
  have c2 := c1 M1 H1 x1
  split at c2
  · rename_i z
    cases (show RD M1 H1 v _ from v1)
    obtain ⟨w2, h2, e2, c3⟩ := Cont.bind (δ := Unit) c2
    refine ⟨⟨_, rfl⟩, M1, h1, ρ, r1, rs.mono x1, w2, h2, e2, fun M2 H2 v2 x2 r2 q2 => ?_⟩
    have c4 := c3 M2 H2 x2
    split at c4
    · rename_i y
      cases (show RD M2 H2 v2 _ from q2)
      split at c4
      · rename_i hz
        exact ⟨_, _, rfl, rfl, hz, c4.fin (.refl _ _) r2 (show RV M2 H2 (.str _) (.dat (.str _)) from .str _)⟩
      · exact c4.no.elim
    · exact c4.no.elim
  · exact c2.no.elim
end
end DL
set_option maxRecDepth 100000
set_option maxHeartbeats 1000000
namespace DL
open PySem PySem.Spec PyProof.Rows L2
variable [HW]
end DL
set_option maxRecDepth 100000
set_option maxHeartbeats 4000000
namespace DL
open PySem PySem.Spec PyProof.Rows L2
variable [HW]
section
variable {P : Program} {w : World}
structure TxR (P : Program) (w : World) (B : Froz.SD) (l : List Str) : Prop where
  ok : Froz.TxOk P w B l
  ris : Ris B.2.2.place.toList
  led : w.params.followText "set-order" = true ∨ B.2.2.led = true
theorem tail_ris {ep : Nat} {es : Array (Int × Value)} {t : SetTable} {b : Bool} (r : Ris t.place.toList) : Ris (Froz.tailTx ep es t b).2.2.place.toList := by
  unfold Froz.tailTx
  split
  · exact relayAll_ris _ _ _
  · exact r
theorem tail_led {ep : Nat} {es : Array (Int × Value)} {t : SetTable} {b : Bool} : (Froz.tailTx ep es t b).2.2.led = t.led := by
  unfold Froz.tailTx
  split
  · exact relayAll_led _ _ _
  · rfl
theorem TxR.add {B : Froz.SD} {l : List Str} {k : Str} (u : Tok) (F : TxR P w B l) : TxR P w (Froz.addTx (hashStr w k) (.str k u) B) (k :: l) := by
  refine ⟨Froz.add_ok u F.ok, ?_, ?_⟩
  · have r1 := layNew_ris B.2.2 B.1 (hashStr w k) (.str k u) F.ris
    unfold Froz.addTx
    apply tail_ris
    split
    · exact r1
    · exact r1
  · have l1 := layNew_led B.2.2 B.1 (hashStr w k) (.str k u)
    rcases F.led with q | q
    · exact .inl q
    · right
      unfold Froz.addTx
      rw [tail_led]
      split
      · exact l1.trans q
      · exact l1.trans q
def TxAt (P : Program) (w : World) (h : Heap) (a : Addr) (l : List Str) : Prop := ∃ B, h.get? a = some (Froz.sObj "set" B) ∧ TxR P w B l
theorem TxAt.at {h h' : Heap} {a : Addr} {l : List Str} (x : TxAt P w h a l) (k : ∀ o, h.get? a = some o → h'.get? a = some o) : TxAt P w h' a l := by
  obtain ⟨B, e, r⟩ := x
  exact ⟨B, k _ e, r⟩
end
end DL
set_option maxRecDepth 100000
set_option maxHeartbeats 1000000
namespace DL
open PySem PySem.Spec PyProof.Rows L2
variable [HW]
end DL
set_option maxRecDepth 100000
set_option maxHeartbeats 1000000
namespace DL
open PySem PySem.Spec PyProof.Rows L2
variable [HW]
end DL
set_option maxRecDepth 100000
set_option maxHeartbeats 1000000
namespace DL
open PySem PySem.Spec PyProof.Rows L2
variable [HW]
end DL
set_option maxRecDepth 100000
set_option maxHeartbeats 4000000
namespace DL
open PySem PySem.Spec PyProof.Rows L2
variable [HW]
section
variable {X : Cx}
def gSub (i j : Int) : Option Int := some (i - j)
end
end DL
set_option maxRecDepth 100000
set_option maxHeartbeats 1000000
namespace DL
open PySem PySem.Spec PyProof.Rows L2
variable [HW]
end DL
set_option maxRecDepth 100000
set_option maxHeartbeats 400000
namespace DL
open PySem PySem.Spec PyProof.Rows L2
variable [HW]
mutual
def noL : D → Bool
  | .tuple ds => noLs ds
  | .list _ => false
  | .dict _ => false
  | _ => true
def noLs : List D → Bool
  | [] => true
  | d :: ds => noL d && noLs ds
end
def noLv : List (D × D) → Bool
  | [] => true
  | (_, d) :: es => noL d && noLv es
def okM : Option MO → Bool
  | some (.lst ds) => noLs ds
  | some (.dit es) => noLv es
  | some (.tab _ _) => true
  | none => true
  | _ => false
def killG {α : Type} (ns : List Nat) (l : List (Option α)) : List (Option α) := ns.foldl (fun l n => l.set n none) l
theorem killG_len {α : Type} : ∀ (ns : List Nat) (l : List (Option α)), (killG ns l).length = l.length
  | [], l => rfl
  | n :: ns, l => by show (killG ns (l.set n none)).length = _; rw [killG_len ns]; simp
theorem killG_get {α : Type} : ∀ (ns : List Nat) (l : List (Option α)) (i : Nat), i < l.length → (killG ns l)[i]? = if i ∈ ns then some none else l[i]?
  | [], l, i, h => by simp [killG]
  | n :: ns, l, i, h => by
    show (killG ns (l.set n none))[i]? = _
    rw [killG_get ns _ i (by simpa using h)]
    by_cases hi : i ∈ ns
    · simp [hi]
    · by_cases hn : n = i
      · subst hn; simp [hi, List.getElem?_set_self h]
      · simp [hi, Ne.symm hn, List.getElem?_set_ne hn]
def openP (h : Hh) : List (Sum Nat D) → Option (List D × List Nat)
  | [] => some ([], [])
  | .inr d :: its => match openP h its with
    | some (ds, ns) => some (d :: ds, ns)
    | none => none
  | .inl n :: its => match h[n]?, openP h its with
    | some (some (.lst l)), some (ds, ns) => some (.list l :: ds, n :: ns)
    | _, _ => none
section
variable {M : Mm} {H : Hp} {h : Hh}
theorem killM_has {ns : List Nat} : ∀ b, Mm.Has ⟨M.u, killG ns M.m⟩ b → M.Has b := fun b z => by
  rcases z with z | z
  · exact .inl z
  · obtain ⟨i, hi, q⟩ := List.getElem_of_mem z
    have hi' : i < M.m.length := by simpa [killG_len] using hi
    have q' : (killG ns M.m)[i]? = some (some b) := by rw [List.getElem?_eq_getElem hi]; exact congrArg some q
    rw [killG_get ns M.m i hi'] at q'
    split at q'
    · cases q'
    · exact .inr (List.mem_of_getElem? q')
theorem killM_get {ns : List Nat} {i : Nat} {a : Addr} (q : (killG ns M.m)[i]? = some (some a)) : i ∉ ns ∧ M.m[i]? = some (some a) := by
  have hi : i < M.m.length := by have := lt_of_get q; rwa [killG_len] at this
  rw [killG_get ns M.m i hi] at q
  split at q
  · cases q
  · rename_i hn; exact ⟨hn, q⟩
theorem Rep.kill (rep : Rep M H h) (ns : List Nat) : Rep ⟨M.u, killG ns M.m⟩ H (killG ns h) := by
  refine ⟨fun b z => ⟨fun y => ?_, (rep.us b z).2⟩, by rw [killG_len, killG_len]; exact rep.len, fun i j b q1 q2 => ?_, fun i b q => ?_, fun i q => ?_⟩
  · obtain ⟨i, hi, q⟩ := List.getElem_of_mem y
    have q' : (killG ns M.m)[i]? = some (some b) := by rw [List.getElem?_eq_getElem hi]; exact congrArg some q
    exact (rep.us b z).1 (List.mem_of_getElem? (killM_get q').2)
  · exact rep.inj i j b (killM_get q1).2 (killM_get q2).2
  · obtain ⟨hn, q'⟩ := killM_get q
    obtain ⟨o, ho, ro⟩ := rep.at_ i b q'
    refine ⟨o, ?_, ro.sub killM_has fun k _ z q => by
      rw [killG_get ns M.m k (lt_of_get q)]
      split
      · exact .inr rfl
      · exact .inl q⟩
    rw [killG_get ns h i (by rw [← rep.len]; exact lt_of_get q'), if_neg hn]
    exact ho
  · have q' : (killG ns M.m)[i]? = some none := q
    have hi : i < M.m.length := by have := lt_of_get q'; rwa [killG_len] at this
    rw [killG_get ns h i (by rw [← rep.len]; exact hi)]
    rw [killG_get ns M.m i hi] at q'
    split at q'
    · rename_i hn; rw [if_pos hn]
    · rename_i hn; rw [if_neg hn]; exact rep.dead i q'
theorem killM_not (rep : Rep M H h) {ns : List Nat} {n : Nat} {a : Addr} (hn : n ∈ ns) (q : M.m[n]? = some (some a)) : ¬ Mm.Has ⟨M.u, killG ns M.m⟩ a := fun z => by
  rcases z with z | z
  · exact (rep.us a z).1 (List.mem_of_getElem? q)
  · obtain ⟨i, hi, e⟩ := List.getElem_of_mem z
    have q' : (killG ns M.m)[i]? = some (some a) := by rw [List.getElem?_eq_getElem hi]; exact congrArg some e
    obtain ⟨h1, h2⟩ := killM_get q'
    exact h1 (rep.inj i n a h2 q ▸ hn)
theorem openP_rds (rep : Rep M H h) {ns0 : List Nat} : ∀ {its : List (Sum Nat D)} {xs : List V} {ds : List D} {ns : List Nat}, RPs M H xs its → openP h its = some (ds, ns) → (∀ n ∈ ns, n ∈ ns0) → RDs ⟨M.u, killG ns0 M.m⟩ H xs ds
  | _, _, _, _, .nil, e, _ => by cases e; exact .nil
  | _, _, _, _, .dat (ds := its) q r, e, hs => by
    simp only [openP] at e
    split at e
    · rename_i ds ns e1
      cases e
      exact .cons (q.sub killM_has) (openP_rds rep r e1 hs)
    · cases e
  | _, _, _, _, .ref (ds := its) q r, e, hs => by
    simp only [openP] at e
    split at e
    · rename_i l ds ns e0 e1
      cases e
      obtain ⟨o, ho, ro⟩ := rep.at_ _ _ q
      rw [e0] at ho
      cases ho
      obtain ⟨xs, hx, rx⟩ := ro
      exact .cons (.lst (killM_not rep (hs _ (by simp)) q) hx (rx.sub killM_has)) (openP_rds rep r e1 fun n z => hs n (List.mem_cons_of_mem _ z))
    · cases e
theorem RS.kill {ρ : Env} {σ : L2.St} {i : Nat} {its : List (Sum Nat D)} {ds : List D} {ns : List Nat} (rep : Rep M H h) (rs : RS M H ρ σ) (er : ρ[i]? = some (some (.pack its))) (eo : openP h its = some (ds, ns)) (hn : ¬ ns.any (fun n => (ρ.set i none).any (isR n)) = true) (h0 : ns ≠ []) :
    RS ⟨M.u, killG ns M.m⟩ H (ρ.set i (some (.dat (.list ds)))) σ := by
  refine ⟨by simp [rs.1], fun j w q => ?_⟩
  by_cases hj : i = j
  · subst hj
    rw [List.getElem?_set_self (lt_of_get er)] at q
    cases q
    obtain ⟨v, ev, a, xs, rfl, na, ha, rp⟩ := rs.2 i _ er
    exact ⟨_, ev, RD.lst (fun z => na (killM_has _ z)) ha (openP_rds rep rp eo fun _ z => z)⟩
  · rw [List.getElem?_set_ne hj] at q
    obtain ⟨v, ev, rv⟩ := rs.2 j w q
    refine ⟨v, ev, ?_⟩
    have hm : some w ∈ ρ.set i none := List.mem_of_getElem? (i := j) (by rw [List.getElem?_set_ne hj]; exact q)
    cases w with
    | dat d => exact RD.sub killM_has rv
    | ins C fs =>
      obtain ⟨b, u, gs, e1, n1, q1, r1⟩ := rv
      exact ⟨b, u, gs, e1, fun z => n1 (killM_has b z), q1, r1.to fun _ _ => RD.sub killM_has⟩
    | objs os => exact RWs.to (show RWs _ _ _ _ from rv) (fun b _ _ n z => n (killM_has b z)) (fun _ _ q _ _ => q) fun _ _ => RD.sub killM_has
    | exc k C fs =>
      obtain ⟨b, d, gs, e1, r1⟩ := rv
      exact ⟨b, d, gs, e1, r1.to (fun c _ _ n z => n (killM_has c z)) (fun _ _ q _ _ => q) fun _ _ => RD.sub killM_has⟩
    | lock es =>
      obtain ⟨b, u, kvs, e1, n1, q1, r1⟩ := rv
      exact ⟨b, u, kvs, e1, fun z => n1 (killM_has b z), q1, r1.sub killM_has⟩
    | scr ns =>
      obtain ⟨b, u, e1, n1, q1⟩ := rv
      exact ⟨b, u, e1, fun z => n1 (killM_has b z), q1⟩
    | tpk its' =>
      obtain ⟨b, xs, e1, n1, q1, r1⟩ := rv
      exact ⟨b, xs, e1, fun z => n1 (killM_has b z), q1, r1.moveI (fun _ _ => RD.sub killM_has) fun m hm' a' ea' => by
        show (killG ns M.m)[m]? = _
        rw [killG_get ns M.m m (lt_of_get ea'), if_neg (fun z => hn (List.any_eq_true.mpr ⟨m, z, List.any_eq_true.mpr ⟨_, hm, List.any_eq_true.mpr ⟨_, hm', by simp⟩⟩⟩))]; exact ea'⟩
    | pack its' =>
      obtain ⟨n, hn0⟩ := List.exists_mem_of_ne_nil _ h0
      exact absurd (List.any_eq_true.mpr ⟨n, hn0, List.any_eq_true.mpr ⟨_, hm, rfl⟩⟩) hn
    | ref k =>
      obtain ⟨b, eb, rfl⟩ := rv
      have hk : k ∉ ns := fun z => hn (List.any_eq_true.mpr ⟨k, z, List.any_eq_true.mpr ⟨_, hm, by simp [isR]⟩⟩)
      exact ⟨b, by show (killG ns M.m)[k]? = _; rw [killG_get ns M.m k (lt_of_get eb), if_neg hk]; exact eb, rfl⟩
end
section
variable {X : Cx}
def packs : List W → Option (List (Sum Nat D))
  | [] => some []
  | .dat d :: ws => (packs ws).map (.inr d :: ·)
  | .ref n :: ws => (packs ws).map (.inl n :: ·)
  | _ :: _ => none
@[simp] theorem packs_nil : packs [] = some [] := rfl
@[simp] theorem packs_dat (d : D) (ws : List W) : packs (.dat d :: ws) = (packs ws).map (.inr d :: ·) := rfl
@[simp] theorem packs_ref (n : Nat) (ws : List W) : packs (.ref n :: ws) = (packs ws).map (.inl n :: ·) := rfl
theorem RPs.length {M : Mm} {H : Hp} : ∀ {vs : List V} {ws : List (Sum Nat D)}, RPs M H vs ws → vs.length = ws.length
  | _, _, .nil => rfl
  | _, _, .ref _ r => by rw [List.length_cons, List.length_cons, r.length]
  | _, _, .dat _ r => by rw [List.length_cons, List.length_cons, r.length]
theorem RPs.get {M : Mm} {H : Hp} : ∀ {xs : List V} {its : List (Sum Nat D)} {i : Nat} {z : Sum Nat D}, RPs M H xs its → its[i]? = some z → ∃ v, xs[i]? = some v ∧ RV M H v (match z with | .inl n => .ref n | .inr d => .dat d)
  | _, _, _, _, .nil, e => by simp at e
  | _, _, 0, _, .ref (a := a) q r, e => by simp at e; subst e; exact ⟨_, rfl, a, q, rfl⟩
  | _, _, 0, _, .dat q r, e => by simp at e; subst e; exact ⟨_, rfl, q⟩
  | _, _, i + 1, z, .ref (vs := vs) (ds := ds) q r, e => by
    obtain ⟨v, e1, e2⟩ := RPs.get (i := i) r (by simpa using e)
    exact ⟨v, by simpa using e1, e2⟩
  | _, _, i + 1, z, .dat (vs := vs) (ds := ds) q r, e => by
    obtain ⟨v, e1, e2⟩ := RPs.get (i := i) r (by simpa using e)
    exact ⟨v, by simpa using e1, e2⟩
end
end DL
set_option maxRecDepth 100000
set_option maxHeartbeats 1000000
namespace DL
open PySem PySem.Spec PyProof.Rows L2
variable [HW]
def RB (M : Mm) (H : Hp) (v : V) (d : D) : Prop := ∃ a xs es, v = .ref a ∧ d = .tuple es ∧ H a = some (.tup xs) ∧ RDs M H xs es
def ItB (M : Mm) (H : Hp) (J : It) (ds : List D) : Prop := ∀ M1 H1, Ext M M1 H H1 → (∀ a, M1.Has a → ∃ o, H1 a = some o ∧ tpO o = false) → (∀ (i : Nat) (d : D), ds[i]? = some d → J.go i H1 ∧ ∀ x H2, J.yld i H1 x H2 → Same H1 H2 ∧ RB M1 H2 x d) ∧ J.stop ds.length H1
def tIB (g : IM) : TI := fun σ H R => ∃ M h ρ ds h', Rep M H h ∧ RS M H ρ σ ∧ g ρ h = some (ds, h') ∧ ∀ M' H' J, ExtE M M' H H' → Rep M' H' h' → ItB M' H' J ds → R J H'
abbrev DIB (X : Cx) (tg it : Expr) (g : IM) : Prop := PI X tg it (tIB g)
def tGB (ts : List Nat) (g : TM) : TG := fun v σ H Q => ∃ M h ρ d ρ', Rep M H h ∧ RS M H ρ σ ∧ RB M H v d ∧ g (.dat d) ρ h = some ρ' ∧ ∀ σ' : L2.St, RS M H ρ' σ' → σ'.length = σ.length → (∀ j, j ∉ ts → σ'[j]? = σ[j]?) → Q σ' H
abbrev DGB (X : Cx) (tg : Expr) (ts : List Nat) (g : TM) : Prop := PG X tg (tGB ts g)
theorem dg_tupB {X : Cx} {tgs : List Expr} {k : Nat} {pos : Pos} {ts : List Nat} {g : TMs} {n : Nat} (hc : X.calm = true) (h : DGs X tgs ts g) (hn : (assignEach tgs X.env).length = n := by rfl) (hst : (assignEach tgs X.env).findIdx? (·.1) = none := by rfl) : DGB X (.Tuple tgs k pos) ts (gT n g) :=
  (pg_tup hc h hn hst).weak fun v σ H Q => by
    rintro ⟨M, h, ρ, d, ρ', r, rs, ⟨a, xs, es, rfl, rfl, ha, qa⟩, e, q⟩
    unfold gT at e
    simp only [deref_dat] at e
    split at e
    · rename_i hz
      exact ⟨a, xs, rfl, .inl (.inl ha), by rw [qa.length]; exact hz, M, h, ρ, es, ρ', r, rs, qa, e, q⟩
    · cases e
theorem lc_impB {gi : IM} {k : TM} {t : BM} {f : EM} {ts vs : List Nat} {m : Bool} (hs : ∀ j ∈ ts, j ∈ vs) : ∀ σ H Q, tE (fLc m gi k t f vs) σ H Q → tLc (tIB gi) (tGB ts k) (tT t) (tE f) vs σ H Q := fun σ H Q => by
  rintro ⟨M, h, ρ, r, rs, c⟩
  obtain ⟨ds, h1, e1, c1⟩ := Cont.bind (δ := Unit) c
  refine ⟨M, h, ρ, ds, h1, r, rs, e1, fun M1 H1 J x1 r1 it D nD => ?_⟩
  obtain ⟨out, h2, e2, c2⟩ := Cont.bind (δ := Unit) (c1 M1 H1 x1)
  have x0 := ext_made (M := M1) (o := .lst []) nD
  have r0 := r1.make (o := .lst []) nD
  have rs0 : RS (M1.made D) (upd H1 D (.lst [])) (wipeE ρ vs) (L2.wipe σ vs) := ((rs.mono x1).moveu x0 rfl).wipe vs
  let P : Nat → Hp → Prop := fun i Hi => ∃ mi hi acc dacc rest, ExtE M1 ⟨M1.u, mi⟩ H1 Hi ∧ Rep ⟨D :: M1.u, mi⟩ Hi hi ∧ RS ⟨D :: M1.u, mi⟩ Hi (wipeE ρ vs) (L2.wipe σ vs) ∧ Hi D = some (.lst acc) ∧ RDs ⟨D :: M1.u, mi⟩ Hi acc dacc ∧ lcL k t f (wipeE ρ vs) (ds.drop i) hi = some (rest, h2) ∧ dacc ++ rest = out
  have outlen : out.length ≤ sizeLine := by
    have c3 := c2 M1 H1 (.refl _ _)
    by_cases hz : out.length ≤ sizeLine
    · exact hz
    · rw [if_neg hz] at c3; exact c3.no.elim
  refine ⟨fun i n Hi => n + i = ds.length ∧ P i Hi, ⟨ds.length, by omega, M1.m, h1, [], [], out, (ExtE.refl M1 H1).beside nD, r0, rs0, upd_same, .nil, by rw [List.drop_zero]; exact e2, rfl⟩, fun i n Hi w => ?_⟩
  obtain ⟨hn, mi, hi, acc, dacc, rest, xi, ri, rsi, hD, qa, el, eo⟩ := w
  have inD : D ∈ (⟨D :: M1.u, mi⟩ : Mm).u := List.mem_cons_self
  have itx := xi.into nD
  obtain ⟨ity, its⟩ := it _ Hi itx fun a ha => ri.tracked ha
  by_cases hlt : i < ds.length
  · refine .inr ?_
    have ed : ds[i]? = some ds[i] := List.getElem?_eq_getElem hlt
    obtain ⟨go, yl⟩ := ity i _ ed
    rw [List.drop_eq_getElem_cons hlt] at el
    refine ⟨go, P (i + 1), fun H' p => ⟨n - 1, by omega, by omega, p⟩, fun x H2 hy => ?_⟩
    obtain ⟨sm, rx⟩ := yl x H2 hy
    obtain ⟨ri2, xi2⟩ := ri.grow sm
    unfold lcL at el
    split at el
    · rename_i ρ1 ek
      refine ⟨_, hi, wipeE ρ vs, ds[i], ρ1, ri2, rsi.mono xi2, rx, ek, fun σ2 rs2 l2 o2 => ⟨wipe_of (by rw [l2, L2.wipe_length]) o2 hs, ?_⟩⟩
      cases et : t ρ1 hi with
      | none => rw [et] at el; cases el
      | some pr =>
        obtain ⟨b, h3⟩ := pr
        rw [et] at el
        simp only [obnd_some] at el
        refine ⟨_, hi, ρ1, ri2, rs2, b, h3, et, fun M3 H3 b' x3 r3 eb => ?_⟩
        subst eb
        obtain ⟨u3, m3⟩ := M3
        obtain rfl : u3 = D :: M1.u := x3.same
        have xi3 : ExtE M1 ⟨M1.u, m3⟩ H1 H3 := xi.trans ((xi2.trans x3).reu M1.u)
        have hD3 : H3 D = some (.lst acc) := x3.stab _ _ (sm _ _ hD) fun z => (ri.us D inD).1 z
        cases b' with
        | false =>
          simp only [Bool.false_eq_true, if_false] at el
          exact iteF ⟨m3, h3, acc, dacc, rest, xi3, r3, (rsi.mono xi2).mono x3, hD3, (qa.mono xi2.ext).mono x3.ext, el, eo⟩
        | true =>
          simp only [if_true] at el
          refine iteT ?_
          cases ef : f ρ1 h3 with
          | none => rw [ef] at el; cases el
          | some pr =>
            obtain ⟨w, h4⟩ := pr
            rw [ef] at el
            simp only [obnd_some] at el
            refine ⟨_, h3, ρ1, r3, rs2.mono x3, w, h4, ef, fun M4 H4 y x4 r4 ry => ?_⟩
            obtain ⟨u4, m4⟩ := M4
            obtain rfl : u4 = D :: M1.u := x4.same
            have hD4 : H4 D = some (.lst acc) := x4.stab _ _ hD3 fun z => (r3.us D List.mem_cons_self).1 z
            split at el
            · rename_i d'
              cases er : lcL k t f (wipeE ρ vs) (ds.drop (i + 1)) h4 with
              | none => rw [er] at el; cases el
              | some pr =>
                obtain ⟨rest', h5⟩ := pr
                rw [er] at el
                simp only [obnd_some, Option.some.injEq, Prod.mk.injEq] at el
                obtain ⟨e5, e6⟩ := el
                subst e5 e6
                have q4 := ((qa.mono xi2.ext).mono x3.ext).mono x4.ext
                have hlen : acc.length < sizeLine := by
                  have h7 := congrArg List.length eo
                  rw [List.length_append, List.length_cons] at h7
                  rw [qa.length]; omega
                have in4 : D ∈ (⟨D :: M1.u, m4⟩ : Mm).u := List.mem_cons_self
                exact ⟨acc, hD4, hlen, m4, h4, acc ++ [y], dacc ++ [d'], rest', (xi3.trans (x4.reu M1.u)).beside nD, r4.off in4, (((rsi.mono xi2).mono x3).mono x4).off in4, upd_same, (q4.off in4).app (.cons (RD.off in4 ry) .nil), er, by rw [List.append_assoc]; exact eo⟩
            · cases el
    · cases el
  · refine .inl ?_
    have hi' : i = ds.length := by omega
    subst hi'
    rw [List.drop_length] at el
    cases el
    rw [List.append_nil] at eo
    subst eo
    refine ⟨its, ?_⟩
    have c3 := c2 M1 H1 (.refl _ _)
    rw [if_pos outlen] at c3
    have nu : D ∉ M1.u := fun z => r1.new nD (.inl z)
    have nm : some D ∉ mi := (ri.us D inD).1
    cases m with
    | false =>
      exact c3.fin xi ri.told (RD.lst (fun z => z.elim nu nm) hD (qa.sub less_has))
    | true =>
      refine c3.fin (M' := ⟨M1.u, mi ++ [some D]⟩) ⟨rfl, xi.trk, xi.stab, fun a z => ?_, Nat.le_trans xi.len (by simp), fun j hj => ?_⟩ (ri.owned nu ⟨acc, hD, qa⟩) ⟨D, ?_, rfl⟩
      · rcases List.mem_append.mp z with z | z
        · exact xi.fresh a z
        · have : a = D := by simpa using z
          rw [this]; exact .inr nD
      · have hl : j < mi.length := Nat.lt_of_lt_of_le hj xi.len
        show (mi ++ [some D])[j]? = _
        rw [List.getElem?_append_left hl]; exact xi.pre j hj
      · show (mi ++ [some D])[h2.length]? = _
        rw [← show mi.length = h2.length from ri.len]; simp
section
variable {X : Cx}
theorem d_lcB (m : Bool) {elt tg iter : Expr} {ifs : List Expr} {scope : Scope} {own : List (Str × Nat)} {pos : Pos} {gi : IM} {ts : List Nat} {k : TM} {t : BM} {f : EM} (hc : X.calm = true) (hN : X.N.Nodup) (hi : DIB X tg iter gi) (ok : BlkOk X.N X.env.scope scope own)
    (hg : ∀ (s : Shared) (H : Hp) (C : Addr) (cl : List (Str × Addr)) (fp : List Addr), DGB (X.blk s H scope (compEnvC scope cl C X.env) fp) tg ts k) (ht : ∀ (s : Shared) (H : Hp) (C : Addr) (cl : List (Str × Addr)) (fp : List Addr), DTs (X.blk s H scope (compEnvC scope cl C X.env) fp) ifs t)
    (he : ∀ (s : Shared) (H : Hp) (C : Addr) (cl : List (Str × Addr)) (fp : List Addr), DE (X.blk s H scope (compEnvC scope cl C X.env) fp) elt f) (hsub : ∀ j ∈ ts, j ∈ own.map (·.2)) (hs : ∀ x, foldedSetIterable iter X.env x = pure x := by intro _; rfl) :
    DE X (.ListComp elt [⟨tg, iter, ifs, 0⟩] scope pos) (fLc m gi k t f (own.map (·.2))) := (pe_lc hc hN hi ok hg ht he hs).weak (lc_impB hsub)
end
mutual
def noD : D → Bool
  | .tuple ds => noDs ds
  | .list ds => noDs ds
  | .dict _ => false
  | _ => true
def noDs : List D → Bool
  | [] => true
  | d :: ds => noD d && noDs ds
end
def noDk : List (D × D) → Bool
  | [] => true
  | (_, d) :: es => noD d && noDk es
def noDf (fs : List (Str × D)) : Bool := fs.all fun p => noD p.2
def noDw : List (Str × Sum Nat D) → Bool
  | [] => true
  | (_, .inl _) :: r => noDw r
  | (_, .inr d) :: r => noD d && noDw r
def noDo : List OI → Bool
  | [] => true
  | .ins _ fs :: r => noDf fs && noDo r
  | .exc _ _ _ :: _ => false
def noDM : Option MO → Bool
  | some (.obj _ fs) => noDw fs
  | some (.los os) => noDo os
  | some (.lst ds) => noDs ds
  | some (.dic es) => noDk es
  | some (.dit es) => noDk es
  | some (.ins _ _) => false
  | _ => true
section
variable {M : Mm} {H : Hp} {d : Addr} {o : Obj} {u : HO} {kvs0 : List (Key × V)}
mutual
theorem RD.lock (hd : H d = some (.dK kvs0)) : ∀ {v : V} {x : D}, RD M H v x → noD x = true → RD M (upd H d u) v x
  | _, _, .non, _ => .non
  | _, _, .bl b, _ => .bl b
  | _, _, .int i, _ => .int i
  | _, _, .str s, _ => .str s
  | _, _, .tup n e r, h => .tup n (e.to fun _ q => by
      rw [upd_ne]; exact q
      rintro rfl
      rcases e with ⟨_, e⟩ | ⟨_, o, _, e⟩ <;> rw [hd] at e <;> cases e) (RDs.lock hd r (by simpa [noD] using h))
  | _, _, .lst n e r, h => .lst n (by
      rw [upd_ne]; exact e
      rintro rfl
      rw [hd] at e; cases e) (RDs.lock hd r (by simpa [noD] using h))
  | _, _, .dic n e r, h => by simp [noD] at h
  | _, _, .dit n e r, h => by simp [noD] at h
theorem RDs.lock (hd : H d = some (.dK kvs0)) : ∀ {v : List V} {x : List D}, RDs M H v x → noDs x = true → RDs M (upd H d u) v x
  | _, _, .nil, _ => .nil
  | _, _, .cons a r, h => by
    simp only [noDs, Bool.and_eq_true] at h
    exact .cons (RD.lock hd a h.1) (RDs.lock hd r h.2)
end
theorem RDk.lock (hd : H d = some (.dK kvs0)) : ∀ {v : List (Key × V)} {x : List (D × D)}, RDk M H v x → noDk x = true → RDk M (upd H d u) v x
  | _, _, .nil, _ => .nil
  | _, _, .cons a r, h => by
    simp only [noDk, Bool.and_eq_true] at h
    exact .cons (RD.lock hd a h.1) (RDk.lock hd r h.2)
theorem RDt.lock (hd : H d = some (.dK kvs0)) : ∀ {v : List KA} {x : List (D × D)}, RDt M H v x → noDk x = true → RDt M (upd H d u) v x
  | _, _, .nil, _ => .nil
  | _, _, .cons n e a r, h => by
    simp only [noDk, Bool.and_eq_true] at h
    exact .cons n (e.to fun _ q => by
      rw [upd_ne]; exact q
      rintro rfl
      rcases e with ⟨_, e⟩ | ⟨_, o, _, e⟩ <;> rw [hd] at e <;> cases e) (RD.lock hd a h.1) (RDt.lock hd r h.2)
theorem RF.lock (hd : H d = some (.dK kvs0)) : ∀ {gs : List (Str × V)} {fs : List (Str × D)}, RF M H gs fs → noDf fs = true → RF M (upd H d u) gs fs
  | _, _, .nil, _ => .nil
  | _ :: _, _ :: _, .cons ⟨e, r⟩ t, h => by
    simp only [noDf, List.all_cons, Bool.and_eq_true] at h
    exact .cons ⟨e, RD.lock hd r h.1⟩ (RF.lock hd t h.2)
theorem RFw.lock (hd : H d = some (.dK kvs0)) : ∀ {gs : List (Str × V)} {fs : List (Str × Sum Nat D)}, RFw M H gs fs → noDw fs = true → RFw M (upd H d u) gs fs
  | _, _, .nil, _ => .nil
  | _ :: _, (_, .inl n) :: _, .cons ⟨e, r⟩ t, h => .cons ⟨e, r⟩ (RFw.lock hd t h)
  | _ :: _, (_, .inr x) :: _, .cons ⟨e, r⟩ t, h => by
    simp only [noDw, Bool.and_eq_true] at h
    exact .cons ⟨e, RD.lock hd r h.1⟩ (RFw.lock hd t h.2)
theorem ROs.lock (hd : H d = some (.dK kvs0)) : ∀ {xs : List V} {os : List OI}, ROs M H xs os → noDo os = true → ROs M (upd H d u) xs os
  | _, _, .nil, _ => .nil
  | _ :: _, .ins _ _ :: _, .cons ⟨a, dx, gs, e, n, q, r⟩ t, h => by
    simp only [noDo, Bool.and_eq_true] at h
    refine .cons ⟨a, dx, gs, e, n, ?_, r.lock hd h.1⟩ (ROs.lock hd t h.2)
    rw [upd_ne]; exact q
    rintro rfl
    rw [hd] at q; cases q
  | _ :: _, .exc _ _ _ :: _, .cons _ _, h => by cases h
theorem RO.lock (hd : H d = some (.dK kvs0)) (hn : ¬ M.Has d) {a : Addr} (ha : M.Has a) {m : MO} (r : RO M H a m) (h : noDM (some m) = true) : RO M (upd H d u) a m := by
  have ne : a ≠ d := fun z => hn (z ▸ ha)
  cases m with
  | lst ds => obtain ⟨xs, e, r⟩ := r; exact ⟨xs, by rw [upd_ne ne]; exact e, r.lock hd h⟩
  | dic ds => obtain ⟨xs, e, r⟩ := r; exact ⟨xs, by rw [upd_ne ne]; exact e, r.lock hd h⟩
  | dit ds => obtain ⟨xs, e, r⟩ := r; exact ⟨xs, by rw [upd_ne ne]; exact e, r.lock hd h⟩
  | ins C fs => cases h
  | obj C fs => obtain ⟨dx, gs, e, r⟩ := r; exact ⟨dx, gs, by rw [upd_ne ne]; exact e, RFw.lock hd r h⟩
  | los os => obtain ⟨xs, e, r⟩ := r; exact ⟨xs, by rw [upd_ne ne]; exact e, ROs.lock hd r h⟩
  | tab q P =>
    obtain ⟨z, ps, e, t, r⟩ := r
    refine ⟨z, ps, by rw [upd_ne ne]; exact e, t, fun pos cv hc => ?_⟩
    obtain ⟨c, e1, n, e2⟩ := r pos cv hc
    refine ⟨c, e1, n, ?_⟩
    rw [upd_ne]; exact e2
    rintro rfl
    rw [hd] at e2; cases e2
theorem Rep.lock {h : Hh} (r : Rep M H h) (hd : H d = some (.dK kvs0)) (hn : ¬ M.Has d) (hk : h.all noDM = true) : Rep M (upd H d u) h :=
  ⟨fun a m => ⟨(r.us a m).1, let ⟨w, e, ht⟩ := (r.us a m).2; ⟨w, by rw [upd_ne (fun z => hn (.inl (by rw [← z]; exact m)))]; exact e, ht⟩⟩, r.len, r.inj, fun i a e => by
    obtain ⟨m, hm, ro⟩ := r.at_ i a e
    exact ⟨m, hm, ro.lock hd hn (.inr (List.mem_of_getElem? e)) (List.all_eq_true.mp hk _ (List.mem_of_getElem? hm))⟩, r.dead⟩
end
section
variable {X : Cx}
theorem RDk.get {M : Mm} {H : Hp} : ∀ {kvs : List (Key × V)} {es : List (D × D)} {i : Nat} {e : D × D}, RDk M H kvs es → es[i]? = some e → ∃ k v, kvs[i]? = some (k, v) ∧ e.1 = kP k ∧ RD M H v e.2
  | _, _, _, _, .nil, e => by simp at e
  | _, _, 0, _, .cons r t, e => by simp at e; subst e; exact ⟨_, _, rfl, rfl, r⟩
  | _, _, i + 1, _, .cons r t, e => by
    obtain ⟨k, v, h1, h2⟩ := RDk.get (i := i) t (by simpa using e)
    exact ⟨k, v, by simpa using h1, h2⟩
end
end DL
set_option maxRecDepth 100000
set_option maxHeartbeats 1000000
namespace DL
open PySem PySem.Spec PyProof.Rows L2
variable [HW]
end DL
set_option maxRecDepth 100000
set_option maxHeartbeats 1000000
namespace DL
open PySem PySem.Spec PyProof.Rows L2
variable [HW]
end DL
set_option maxRecDepth 100000
set_option maxHeartbeats 1000000
namespace DL
open PySem PySem.Spec PyProof.Rows L2
variable [HW]
end DL
set_option maxRecDepth 100000
set_option maxHeartbeats 1000000
namespace DL
open PySem PySem.Spec PyProof.Rows L2
variable [HW]
end DL
set_option maxRecDepth 100000
set_option maxHeartbeats 1000000
namespace DL
open PySem PySem.Spec PyProof.Rows L2
variable [HW]
end DL
set_option maxRecDepth 100000
namespace DL
open PySem PySem.Spec PyProof.Rows L2
variable [HW]
end DL
set_option maxRecDepth 100000
set_option maxHeartbeats 1000000
namespace DL
open PySem PySem.Spec PyProof.Rows L2
variable [HW]
end DL
set_option maxRecDepth 100000
set_option maxHeartbeats 1000000
namespace DL
open PySem PySem.Spec PyProof.Rows L2
variable [HW]
section
variable {X : Cx}
def okI : D → Bool
  | .int i => decide (i.natAbs.log2 < 1920)
  | .dict _ => false
  | _ => true
def reprA (ws : List W) (h : Hh) : Option (W × Hh) := match ws with
  | [w] => match deref h w with
    | some d => if (okI d && shp d && d.showable && decide (d.shown.length ≤ sizeLine)) = true then ok (.str d.shown) h else none
    | none => none
  | _ => none
def rReprA (K : PySem.W.Frag) : List V → Hp → VK → Prop := fun xs H Q => rRepr K xs H Q ∨ (xs = [.non] ∧ Q (.str "None") H) ∨ (∃ b : Bool, xs = [.bl b] ∧ Q (.str (if b then "True" else "False")) H) ∨ (∃ i : Int, xs = [.int i] ∧ i.natAbs.log2 < 1920 ∧ Q (.str (toString i)) H) ∨ ∃ z : Str, xs = [.str z] ∧ (PyData.shown (.str z)).length ≤ sizeLine ∧ Q (.str (PyData.shown (.str z))) H
theorem cr_reprA {k : Nat} (hr : RG k X.A) : CallR X (.builtin "repr") (rReprA X.K) := by
  intro pins s σ H xs us Q I r h
  rcases h with h | ⟨rfl, q⟩ | ⟨b, rfl, q⟩ | ⟨i, rfl, hz, q⟩ | ⟨z, rfl, hz, q⟩
  · exact cr_repr hr pins s σ H xs us Q I r h
  · obtain ⟨u, rfl, e⟩ := vals1 r
    cases e
    exact PySem.P.repr_of_none ⟨.str _, H, I.tok _, ⟨_, rfl⟩, q⟩
  · obtain ⟨u, rfl, e⟩ := vals1 r
    cases e
    exact PySem.P.repr_of_bool ⟨.str _, H, I.tok _, ⟨_, rfl⟩, q⟩
  · exact SkE.call_repr_int pins s σ H _ us Q I r ⟨i, rfl, hz, q⟩
  · obtain ⟨u, rfl, t, rfl⟩ := vals1 r
    exact PySem.P.repr_of_str ⟨.str _, H, I.tok _, ⟨_, rfl⟩, q⟩ hz
theorem s_reprA : SemA (rReprA X.K) reprA := by
  intro M H h vs ws Q rep rv c
  unfold reprA at c
  split at c
  · obtain ⟨v, rfl, r⟩ := rvs1 rv
    split at c
    · rename_i d e
      split at c
      · rename_i hz
        simp only [Bool.and_eq_true, decide_eq_true_eq] at hz
        obtain ⟨⟨⟨h1, h2⟩, h3⟩, h4⟩ := hz
        have rr := deref_rr rep r e
        have dp := rr_dp (K := X.K) rr (SeqAt.canLay_of_shaped h2)
        cases d with
        | list ds => obtain ⟨a, _, e, _⟩ := rr; subst e; exact .inl ⟨a, _, rfl, dp, h2, h3, h4, c.here rep (.str _)⟩
        | tuple ds => obtain ⟨a, _, e, _⟩ := rr_tup rr; subst e; exact .inl ⟨a, _, rfl, dp, h2, h3, h4, c.here rep (.str _)⟩
        | none =>
          cases (show RD M H v .none from rr)
          exact .inr (.inl ⟨rfl, c.here rep (.str _)⟩)
        | bool b =>
          cases (show RD M H v (.bool b) from rr)
          refine .inr (.inr (.inl ⟨b, rfl, ?_⟩))
          have := c.here rep (.str (PyData.bool b).shown)
          cases b <;> exact this
        | int i =>
          cases (show RD M H v (.int i) from rr)
          exact .inr (.inr (.inr (.inl ⟨i, rfl, by simpa [okI] using h1, c.here rep (.str _)⟩)))
        | str z =>
          cases (show RD M H v (.str z) from rr)
          exact .inr (.inr (.inr (.inr ⟨z, rfl, h4, c.here rep (.str _)⟩)))
        | _ => first | (simp [okI] at h1; done) | (cases (show RD M H v _ from rr))
      · exact c.no.elim
    · exact c.no.elim
  · exact c.no.elim
variable {e : Expr} {g : AM} {p pos : Pos}
theorem d_reprA {k : Nat} (hr : RG k X.A) (hm : X.mg "repr" = none) (ha : DA X [e] g) (hg : Gl X "repr" := by rfl) (he : starEach [e] X.env = (false, eval e X.env) :: starEach [] X.env := by rfl) (hpl : (backTo pos (starEach [] X.env)).any (·.1) = false := by rfl) : DE X (.Call (.Name "repr" p) [e] [] pos) (fA reprA g) :=
  d_callB (cr_reprA hr) s_reprA hm (by decide +kernel) ha hg (by decide) (by decide) he hpl
end
end DL
set_option maxRecDepth 100000
set_option maxHeartbeats 1000000
namespace DL
open PySem PySem.Spec PyProof.Rows L2
variable [HW]
end DL
set_option maxRecDepth 100000
set_option maxHeartbeats 1000000
namespace DL
open PySem PySem.Spec PyProof.Rows L2
variable [HW]
end DL
set_option maxRecDepth 100000
set_option maxHeartbeats 1000000
namespace DL
open PySem PySem.Spec PyProof.Rows L2
variable [HW]
end DL
set_option maxRecDepth 100000
set_option maxHeartbeats 1000000
namespace DL
open PySem PySem.Spec PyProof.Rows L2
variable [HW]
end DL
set_option maxRecDepth 100000
set_option maxHeartbeats 1000000
namespace DL
open PySem PySem.W PySem.Calls PyProof.Rows PyProof.V PySem.Spec
variable [HW]
end DL
set_option maxRecDepth 100000
set_option maxHeartbeats 1000000
namespace DL
open PySem PySem.Spec PyProof.Rows L2
variable [HW]
end DL
set_option maxRecDepth 100000
set_option maxHeartbeats 1000000
namespace DL
open PySem PySem.Spec PyProof.Rows L2
variable [HW]
end DL
set_option maxRecDepth 100000
set_option maxHeartbeats 1000000
namespace DL
open PySem PySem.Spec PyProof.Rows L2
variable [HW]
end DL
set_option maxRecDepth 100000
set_option maxHeartbeats 1000000
namespace DL
open PySem PySem.Spec PyProof.Rows L2
variable [HW]
def tabsO (os : List (Option (Str × Addr × Addr))) : Hh := os.map fun o => o.map fun t => .tab t.1 t.2.2
theorem inj_O : ∀ (os : List (Option (Str × Addr × Addr))), ((os.filterMap id).map (·.2.2)).Nodup → ∀ {i j : Nat} {t1 t2 : Str × Addr × Addr}, os[i]? = some (some t1) → os[j]? = some (some t2) → t1.2.2 = t2.2.2 → i = j
  | [], _, i, j, t1, t2, h1, _, _ => by simp at h1
  | none :: os, nd, i, j, t1, t2, h1, h2, e => by
    cases i with
    | zero => simp at h1
    | succ i => cases j with
      | zero => simp at h2
      | succ j => exact congrArg (· + 1) (inj_O os nd (by simpa using h1) (by simpa using h2) e)
  | some t :: os, nd, i, j, t1, t2, h1, h2, e => by
    have nd' : (t.2.2 :: (os.filterMap id).map (·.2.2)).Nodup := nd
    obtain ⟨n1, n2⟩ := List.nodup_cons.mp nd'
    have inn : ∀ {k : Nat} {u : Str × Addr × Addr}, os[k]? = some (some u) → u.2.2 ∈ (os.filterMap id).map (·.2.2) := fun {k u} hk => List.mem_map.mpr ⟨u, List.mem_filterMap.mpr ⟨some u, List.mem_of_getElem? hk, rfl⟩, rfl⟩
    cases i with
    | zero => cases j with
      | zero => rfl
      | succ j =>
        simp at h1 h2
        subst h1
        exact (n1 (e ▸ inn h2)).elim
    | succ i => cases j with
      | zero =>
        simp at h1 h2
        subst h2
        exact (n1 (e ▸ inn h1)).elim
      | succ j => exact congrArg (· + 1) (inj_O os n2 (by simpa using h1) (by simpa using h2) e)
omit [HW] in
theorem walk_gO {l : PySem.W.OpenLaw} {k : Nat} {q : Program} {loose : List Str} {XP : (Str → Option Value) → Heap → Prop} {YP : World → Heap → Prop} {d : DefRec} {K : Params → PySem.W.Frag} {x : Str} {xs : List Str}
    (hn : l.most = some 63) (hdf : d.params.defaults = []) (hr : Room k callerA)
    (hY : ∀ (w : World) (h : Heap), YP w h → (K w.params).In h) (hnl : ∀ w : World, noList (K w.params) = true) (hrec : ∀ x ∈ xs, ((recsOf q).find? fun e => e.name == x).isSome = true)
    (F : ∀ (w : World) (mg : Str → Option Value) (fa : Addr) (h : Heap), (K w.params).In h → h.Ns mainGlobals mg → mg d.name = some (.ref fa) →
      ∃ (fd : FuncData) (os : List (Option (Str × Addr × Addr))) (m : FM), (∀ (s : Shared) (u : Value), BindsTo s fd ⟨[u], []⟩ [(x, u)]) ∧ (∀ t ∈ os.filterMap id, (∃ y ∈ xs, PySem.W.tabIn (K w.params) y = some (t.2.1, t.2.2)) ∧ (K w.params).lookup t.2.2 = none) ∧ ((os.filterMap id).map (·.2.2)).Nodup ∧
        (∀ base : Heap, (K w.params).In base → base.Ns mainGlobals mg → (∀ t ∈ os.filterMap id, LamX.TabB base mg t.2.1 t.2.2) → FnG l.prog w (K w.params) mg base CX0 k fa fd [x] (@spD (HW.mk l.prog w) m)) ∧
        ∀ ns : List Int, ns.length ≤ 63 → ∃ h', m [.scr ns] (tabsO os) = some (.dat (.bool true), h')) :
    PySem.W.WalkO q loose XP YP l.row.toRowW d [] (fun f vs => PySem.call f vs) := by
  apply Att.attach_call hn hdf
  intro w s₀ s₁ mg mb fa o pm cd doc a vs ns G Y ho hd hcd hmg hobj hints hlen hg
  letI : HW := HW.mk l.prog w
  have KX := hY w _ Y
  obtain ⟨fd, os, m, hb, hts, hnd, hF, hm⟩ := F w mg fa _ KX G.T.g hmg
  generalize hos : os.filterMap id = ts at hts hnd hF
  have hka : (K w.params).lookup a = none := by
    cases e : (K w.params).lookup a with
    | none => rfl
    | some u =>
      exfalso
      have e1 := KX a u e
      rw [hobj] at e1
      cases e1
      have := List.all_eq_true.mp (hnl w) _ (lookup_mem e)
      cases this
  have hT : ∀ p ∈ ts.map (·.2), PySem.W.CodeHd s₁.heap p.1 p.2 ∧ s₁.heap.get? p.2 = some { cls := .none, data := .fields #[] } := by
    intro p hp
    obtain ⟨t, ht, rfl⟩ := List.mem_map.mp hp
    obtain ⟨⟨y, hy, e⟩, _⟩ := hts t ht
    obtain ⟨dr, hdr⟩ := Option.isSome_iff_exists.mp (hrec y hy)
    exact PySem.W.tab_of G.T KX hdr e
  have nT : ∀ p ∈ ts.map (·.2), (K w.params).lookup p.2 = none := by
    intro p hp
    obtain ⟨t, ht, rfl⟩ := List.mem_map.mp hp
    exact (hts t ht).2
  refine law_gT (sp := spD m) (cs := ts.map (·.2)) KX G.T.g G.T.b G.T.builtins G.T.nolimit hg hT nT G.T.bmain hobj hints (Nat.le_trans hlen (by decide)) hr (fun base kb nb TB => hF base kb nb fun t ht => TB t.2 (List.mem_map.mpr ⟨t, ht, rfl⟩)) hb hka ?_
  intro H ha hH hna
  obtain ⟨ob, ha⟩ := ha
  obtain ⟨h', e⟩ := hm ns hlen
  have at_ : ∀ (i : Nat) (b : Addr), (os.map fun o => o.map fun t => t.2.2)[i]? = some (some b) → ∃ t, os[i]? = some (some t) ∧ t.2.2 = b ∧ t ∈ ts := by
    intro i b z
    rw [List.getElem?_map] at z
    cases y : os[i]? with
    | none => rw [y] at z; cases z
    | some o =>
      cases o with
      | none => rw [y] at z; simp at z
      | some t =>
        rw [y] at z; simp at z
        exact ⟨t, rfl, z, by rw [← hos]; exact List.mem_filterMap.mpr ⟨some t, List.mem_of_getElem? y, rfl⟩⟩
  have rep : Rep ⟨[], os.map fun o => o.map fun t => t.2.2⟩ H (tabsO os) := by
    refine ⟨fun a z => (by cases z), by simp [tabsO], fun i j b z1 z2 => ?_, fun i b z => ?_, fun i z => ?_⟩
    · obtain ⟨t1, y1, e1, _⟩ := at_ i b z1
      obtain ⟨t2, y2, e2, _⟩ := at_ j b z2
      exact inj_O os (by rw [hos]; exact hnd) y1 y2 (e1.trans e2.symm)
    · obtain ⟨t, y, rfl, ht⟩ := at_ i b z
      refine ⟨.tab t.1 t.2.2, by simp [tabsO, y], rfl, #[], hH t.2 (List.mem_map.mpr ⟨t, ht, rfl⟩), trivial, fun pos cv hc => ?_⟩
      have z : codeAmong pos [] = some cv := hc
      simp [codeAmong] at z
    · have z' : (os.map fun o => o.map fun t => t.2.2)[i]? = some none := z
      rw [List.getElem?_map] at z'
      cases y : os[i]? with
      | none => rw [y] at z'; cases z'
      | some o =>
        cases o with
        | none => simp [tabsO, y]
        | some t => rw [y] at z'; simp at z'
  have nh : ¬ Mm.Has ⟨[], os.map fun o => o.map fun t => t.2.2⟩ a := fun z => by
    rcases z with z | z
    · cases z
    · obtain ⟨o, ho, e⟩ := List.mem_map.mp (show some a ∈ os.map fun o => o.map fun t => t.2.2 from z)
      cases o with
      | none => cases e
      | some t =>
        apply hna
        rw [List.map_map]
        exact List.mem_map.mpr ⟨t, by rw [← hos]; exact List.mem_filterMap.mpr ⟨some t, ho, rfl⟩, Option.some.inj e⟩
  refine ⟨_, tabsO os, [.scr ns], rep, .cons ⟨a, ob, rfl, nh, ha⟩ .nil, .dat (.bool true), h', e, fun M' H' v _ _ r => ?_⟩
  cases (show RD M' H' v _ from r)
  rfl
end DL
set_option maxRecDepth 100000
set_option maxHeartbeats 1000000
namespace DL
open PySem PySem.Spec PyProof.Rows L2
variable [HW]
end DL
set_option maxRecDepth 100000
set_option maxHeartbeats 1000000
namespace DL
open PySem PySem.Spec PyProof.Rows L2
variable [HW]
end DL
set_option maxRecDepth 100000
set_option maxHeartbeats 1000000
namespace DL
open PySem PySem.Spec PyProof.Rows L2
variable [HW]
end DL
set_option maxRecDepth 100000
set_option maxHeartbeats 400000
namespace DL
open PySem PySem.Spec PyProof.Rows L2
variable [HW]
abbrev Xc := Nat × Addr × List (Str × D)
def XR (M : Mm) (H : Hp) (cls : Value) (d : Option Addr) (x : Xc) : Prop := ∃ gs, cls = .ref x.2.1 ∧ XD M H d gs ∧ RF M H gs x.2.2
theorem XR.mono {M M' : Mm} {H H' : Hp} {cls : Value} {d : Option Addr} {x : Xc} (e : Ext M M' H H') : XR M H cls d x → XR M' H' cls d x
  | ⟨gs, q, y, z⟩ => ⟨gs, q, y.to (fun _ _ q n => e.out n q) fun _ _ q _ n => e.st n q, z.to fun _ _ => RD.mono e⟩
abbrev RE := Env → Hh → Option (Xc × Hh)
abbrev RM := Env → Hh → Option ((Env × Xc) × Hh)
def RPost (W : WX) (M0 : Mm) (H0 : Hp) : Option ((Env × Xc) × Hh) → Prop
  | some ((ρ, x), h) => ∀ M H σ cls d, M.u = M0.u → Ext M0 M H0 H → Rep M H h → RS M H ρ σ → XR M H cls d x → W cls d σ H
  | none => False
theorem RPost.mono {W : WX} {M0 M1 : Mm} {H0 H1 : Hp} {r : Option ((Env × Xc) × Hh)} (p : RPost W M0 H0 r) (u : M1.u = M0.u) (x : Ext M0 M1 H0 H1) : RPost W M1 H1 r := by
  match r, p with
  | some ((ρ, y), h), p => exact fun M H σ cls d e z => p M H σ cls d (e.trans u) (x.trans z)
end DL
set_option maxRecDepth 100000
set_option maxHeartbeats 400000
namespace DL
open PySem PySem.Spec PyProof.Rows L2
variable [HW]
abbrev FR := List W → Hh → Option (Xc × Hh)
theorem XR.sub {M M' : Mm} {H : Hp} {cls : Value} {d : Option Addr} {x : Xc} (s : ∀ b, M'.Has b → M.Has b) : XR M H cls d x → XR M' H cls d x
  | ⟨gs, q, y, z⟩ => ⟨gs, q, y.to (fun b _ _ n m => n (s b m)) (fun _ _ q _ _ => q), z.to fun _ _ => RD.sub s⟩
end DL
set_option maxRecDepth 100000
set_option maxHeartbeats 400000
namespace DL
open PySem PySem.Spec PyProof.Rows L2
variable [HW]
theorem all_cons {α : Type} {P : α → Prop} {a : α} {l : List α} (h : P a) (t : ∀ x ∈ l, P x) : ∀ x ∈ a :: l, P x := fun x m => by
  rcases List.mem_cons.mp m with rfl | m
  · exact h
  · exact t x m
end DL
set_option maxRecDepth 100000
set_option maxHeartbeats 400000
namespace DL
open PySem PySem.Spec PyProof.Rows L2
variable [HW]
section
variable {X : Cx} {a : Addr} {pn pins : List (Addr × Obj)} {σ : L2.St} {H : Hp} {s : Shared} {E : Value → Shared → Prop}
structure EC (K : PySem.W.Frag) (C : Addr) : Prop where
  hg : PySem.W.findIn K (.ref C) "__getattribute__" = some (some (.builtin "BaseException.__getattribute__"))
  hk : PySem.W.findIn K (.ref C) "__getattr__" = some none
  hs : PySem.W.subIn K (.ref C) (.type "BaseException") = some true
  hd : PySem.W.hasDictIn K C = true
  ha : PySem.W.findIn K (.ref C) "__class__" = some (some (.builtin "object.__class__"))
  hn : PySem.W.specialIn K (.builtin "object.__class__") "__get__" = some (some (.builtin "getset_descriptor.__get__"))
  ht : PySem.W.takesIn K (.builtin "object.__class__") = some true
  hm : PySem.W.mroIn K C (.type "object") = some true
theorem EC.cl {K : PySem.W.Frag} {C : Addr} (e : EC K C) : (PySem.W.clsIn K C).isSome = true := by
  obtain ⟨cd, hc, _⟩ := PySem.W.any_some e.hd
  rw [hc]; rfl
end
section
variable {X : Cx} {e : Expr} {f : EM} {p pt pos : Pos} {ks : List (Nat × Addr)} {ys : List Nat}
inductive ClsPA (X : Cx) : List Expr → List V → List Value → Prop
  | nil : ClsPA X [] [] []
  | cons {x : Str} {np : Pos} {C : Addr} {es : List Expr} {cs : List V} {us : List Value} : X.mg x = some (.ref C) → ClsPA X es cs us → (hg : Gl X x := by rfl) → (hd : (x == ("__debug__" : Str)) = false := by decide) →
      (hs : starEach (.Name x np :: es) X.env = (false, eval (.Name x np) X.env) :: starEach es X.env := by rfl) → ClsPA X (.Name x np :: es) (.ref C :: cs) (.ref C :: us)
  | consB {x : Str} {np : Pos} {T : String} {es : List Expr} {cs : List V} {us : List Value} : X.mg x = none → bootBuiltins x = some (.type T) → ClsPA X es cs us → (hg : Gl X x := by rfl) → (hn : x ≠ "__name__" := by decide) → (hd : (x == ("__debug__" : Str)) = false := by decide) →
      (hs : starEach (.Name x np :: es) X.env = (false, eval (.Name x np) X.env) :: starEach es X.env := by rfl) → ClsPA X (.Name x np :: es) (.ty T :: cs) (.type T :: us)
theorem ClsPA.cv : ∀ {es : List Expr} {cs : List V} {us : List Value}, ClsPA X es cs us → Paired ClsV cs us
  | _, _, _, .nil => .nil
  | _, _, _, .cons _ t _ _ _ => .cons (.own _) t.cv
  | _, _, _, .consB _ _ t _ _ _ _ => .cons (.ty _) t.cv
end
end DL
set_option maxRecDepth 100000
set_option maxHeartbeats 400000
namespace DL
open PySem PySem.Spec PyProof.Rows L2
variable [HW]
end DL
set_option maxRecDepth 100000
set_option maxHeartbeats 4000000
namespace DL
open PySem PySem.Spec PyProof.Rows L2
variable [HW]
end DL
set_option maxRecDepth 100000
set_option maxHeartbeats 4000000
namespace DL
open PySem PySem.Spec PyProof.Rows L2
variable [HW]
end DL
set_option maxRecDepth 100000
set_option maxHeartbeats 4000000
namespace DL
open PySem PySem.Spec PyProof.Rows L2
variable [HW]
end DL
set_option maxRecDepth 100000
set_option maxHeartbeats 1000000
namespace DL
open PySem PySem.Spec PyProof.Rows L2
variable [HW]
def ItzTT (x y : Str) : It :=
  ⟨fun i H => i < x.cps.size ∧ i < y.cps.size,
    fun i H v H' => ∃ (T : Addr) (c d : Nat), v = .ref T ∧ H T = none ∧ H' = upd H T (.tup [.str ⟨#[c]⟩, .str ⟨#[d]⟩]) ∧ x.cps[i]? = some c ∧ y.cps[i]? = some d,
    fun i H => i = min x.cps.size y.cps.size⟩
abbrev asciiB (x : Str) : Bool := x.cps.all (· < 128)
theorem sep_tt {n : Addr} : ZipSep2 (n + 4) (n + 2) (n + 3) n (n + 1) [n] [n + 1] := by
  constructor <;> (try simp) <;> (intro e; first | exact absurd e (Nat.ne_of_gt (by unfold Addr at *; omega)) | (unfold Addr at *; omega))
theorem turn_zipTT {P : Program} {w : World} {K : PySem.W.Frag} {elts : List Expr} {kk : Nat} {tpos : Pos} {x y : Str} {t u : Tok} {z TI TO i1 i2 : Addr} (D : ZipSep2 z TI TO i1 i2 [i1] [i2]) :
    Turn P w K (.Tuple elts kk tpos) (ItzTT x y) [z, TI, TO, i1, i2] z (fun i h => IsZip h z TI TO .none ∧ IsTupOf2 h TI (.ref i1) (.ref i2) ∧ (∃ a b, IsTupOf2 h TO a b) ∧ h.IsStrIter i1 "str_ascii_iterator" x t i ∧ h.IsStrIter i2 "str_ascii_iterator" y u i) where
  mem := by simp
  obj := fun i h st c hc => by
    obtain ⟨hz, hTI, ⟨a, b, hTO⟩, ⟨o1, e1, _, d1⟩, ⟨o2, e2, _, d2⟩⟩ := st
    have e' : c = z ∨ c = TI ∨ c = TO ∨ c = i1 ∨ c = i2 := by simpa using hc
    rcases e' with q | q | q | q | q
    · rw [q]; exact ⟨_, hz, fun v q => nomatch q⟩
    · rw [q]; exact ⟨_, hTI, fun v q => nomatch q⟩
    · rw [q]; exact ⟨_, hTO, fun v q => nomatch q⟩
    · rw [q]; exact ⟨o1, e1, fun v q => by rw [d1] at q; cases q⟩
    · rw [q]; exact ⟨o2, e2, fun v q => by rw [d2] at q; cases q⟩
  keep := fun i h h' st k => by
    obtain ⟨hz, hTI, ⟨a, b, hTO⟩, ⟨o1, e1, r1⟩, ⟨o2, e2, r2⟩⟩ := st
    exact ⟨k z (by simp) _ hz, k TI (by simp) _ hTI, ⟨a, b, k TO (by simp) _ hTO⟩, ⟨o1, k i1 (by simp) _ e1, r1⟩, ⟨o2, k i2 (by simp) _ e2, r2⟩⟩
  item := by
    intro X hP hw hK hc i pins s σ H E I hf st hg
    subst hP hw hK
    obtain ⟨hz, hTI, ⟨a0, b0, hTO⟩, h1, h2⟩ := st
    have hzl : z < s.heap.objs.size := Heap.lt_size hz
    have hh : X.A.in1.handled = none := I.ok.hd hc
    refine wpAny_pyNext_zipD2_item D (Draws.strAscii hh i1 x t) (Draws.strAscii hh i2 y u) hz hTI hTO h1 h2 hg.1 hg.2 fun x1 x2 h' tk p1 p2 z' TO' h1' h2' hT hsz hk => ?_
    obtain ⟨c, u1, hcx, rfl⟩ := p1
    obtain ⟨d, u2, hdx, rfl⟩ := p2
    refine ⟨_, rfl, wpAny_letOwnedTupleGo_zip (s := { s with heap := h', toks := tk }) z' fun h'' z'' sb => ?_⟩
    have hT2 : h''.get? s.heap.objs.size = some { cls := .type "tuple", data := .seq #[.str ⟨#[c]⟩ u1, .str ⟨#[d]⟩ u2] } := (sb.2 _ (Nat.ne_of_gt hzl)).trans hT
    have new : ObjOk X.prog X.w (upd H s.heap.objs.size (.tup [.str ⟨#[c]⟩, .str ⟨#[d]⟩])) h'' s.heap.objs.size (.tup [.str ⟨#[c]⟩, .str ⟨#[d]⟩]) :=
      ⟨by show 2 ≤ sizeLine; decide, [.str ⟨#[c]⟩ u1, .str ⟨#[d]⟩ u2], .cons ⟨_, rfl⟩ (.cons ⟨_, rfl⟩ .nil), ⟨_, hT2, rfl, _, rfl⟩⟩
    have I1 : Inv X pins σ (upd H s.heap.objs.size (.tup [.str ⟨#[c]⟩, .str ⟨#[d]⟩])) { s with heap := h'', toks := tk } :=
      I.turnedNew (t' := tk) (ch := [z, TI, TO, i1, i2]) (fun c o hb q => (sb.2 c (fun q' => hb (by simp [q']))).trans (hk c o (fun q' => hb (by simp [q'])) (fun q' => hb (by simp [q'])) (fun q' => hb (by simp [q'])) (fun q' => hb (by simp [q'])) q)) hf (Nat.le_refl _) new
    have at1 : ∀ (j : Addr) (z0 : Str) (v : Tok), j ≠ z → h'.IsStrIter j "str_ascii_iterator" z0 v (i + 1) → h''.IsStrIter j "str_ascii_iterator" z0 v (i + 1) := fun j z0 v nj q => by
      obtain ⟨o, ho, r⟩ := q
      exact ⟨o, (sb.2 _ nj).trans ho, r⟩
    refine ⟨.ref s.heap.objs.size, _, I1, rfl, ⟨_, c, d, rfl, I.hok.fresh (Nat.le_refl _), rfl, hcx, hdx⟩, ⟨z'', ?_, ⟨.str ⟨#[c]⟩ u1, .str ⟨#[d]⟩ u2, (sb.2 _ D.TOz).trans TO'⟩, at1 i1 x t D.zi1.symm h1', at1 i2 y u D.zi2.symm h2'⟩, fun c' hcm => ?_⟩
    · exact (sb.2 _ D.TIz).trans (hk _ _ D.TIz D.TITO D.TIi1 D.TIi2 hTI)
    · have hlt : c' < s.heap.objs.size := by
        have e' : c' = z ∨ c' = TI ∨ c' = TO ∨ c' = i1 ∨ c' = i2 := by simpa using hcm
        rcases e' with q | q | q | q | q
        · rw [q]; exact hzl
        · rw [q]; exact Heap.lt_size hTI
        · rw [q]; exact Heap.lt_size hTO
        · rw [q]; obtain ⟨_, e1, _⟩ := h1; exact Heap.lt_size e1
        · rw [q]; obtain ⟨_, e2, _⟩ := h2; exact Heap.lt_size e2
      rw [upd_ne (Nat.ne_of_lt hlt)]
      exact (hf c' hcm).1
  done := by
    intro X hP hw hK hc i pins s σ H E I hf st hg
    subst hP hw hK
    obtain ⟨hz, hTI, ⟨a0, b0, hTO⟩, h1, h2⟩ := st
    have hh : X.A.in1.handled = none := I.ok.hd hc
    have hg : i = min x.cps.size y.cps.size := hg
    exact wpAny_pyNext_zipD2_end D (Draws.strAscii hh i1 x t) (Draws.strAscii hh i2 y u) hz hTI hTO h1 h2 (by omega) (by omega) (by omega) fun h' tk hk => ⟨rfl, I.turnedL (t' := tk) (ch := [z, TI, TO, i1, i2]) (fun c o hb q =>
      hk c o (fun q' => hb (by simp [q'])) (fun q' => hb (by simp [q'])) (fun q' => hb (by simp [q'])) (fun q' => hb (by simp [q'])) q) hf⟩
  self := fun A i s Q E st h => wpAny_pyIter_zip st.1 h
def iZipTT (ta : TA) : TI := fun σ H R => ta σ H fun vs H1 => ∃ x y : Str, vs = [.str x, .str y] ∧ asciiB x = true ∧ asciiB y = true ∧ R (ItzTT x y) H1
theorem pi_zipTT {X : Cx} {e e2 : Expr} {ta : TA} {p pos tpos : Pos} {elts : List Expr} {kk : Nat} (hg : Gl X "zip") (hm : X.mg "zip" = none) (ha : PA X [e, e2] ta)
    (hs : starEach [e, e2] X.env = (false, eval e X.env) :: starEach [e2] X.env := by rfl) (hpl : (backTo pos (starEach [e2] X.env)).any (·.1) = false := by rfl) :
    PI X (.Tuple elts kk tpos) (.Call (.Name "zip" p) [e, e2] [] pos) (iZipTT ta) := by
  refine ⟨fun pins s σ H R I h => ?_⟩
  refine Call_ (ld_blt I hg hm PyProof.Rows.boot_zip (PyProof.Rows.callWith_type1 (thn (ha.run pos pins s σ H _ I h) fun us s1 ⟨vs, H1, I1, r1, q1⟩ => ?_) hs hpl))
  obtain ⟨x, y, ex, ax, ay, q⟩ := q1
  subst ex
  cases r1 with
  | cons r rr =>
    cases rr with
    | cons r' rr =>
      cases rr
      obtain ⟨t, rfl⟩ := r
      obtain ⟨u, rfl⟩ := r'
      have fresh5 : ∀ c, c ∈ [s1.heap.objs.size + 4, s1.heap.objs.size + 2, s1.heap.objs.size + 3, s1.heap.objs.size, s1.heap.objs.size + 1] → FpOk X pins H1 c := fun c hcm => by
        have e' : c = s1.heap.objs.size + 4 ∨ c = s1.heap.objs.size + 2 ∨ c = s1.heap.objs.size + 3 ∨ c = s1.heap.objs.size ∨ c = s1.heap.objs.size + 1 := by simpa using hcm
        have hle : s1.heap.objs.size ≤ c := by
          rcases e' with z | z | z | z | z
          · rw [z]; exact Nat.le_add_right _ _
          · rw [z]; exact Nat.le_add_right _ _
          · rw [z]; exact Nat.le_add_right _ _
          · rw [z]; exact Nat.le_refl _
          · rw [z]; exact Nat.le_add_right _ _
        exact I1.fpOk hle (I1.hok.fresh hle)
      have tx : strIterType x = "str_ascii_iterator" := by unfold strIterType; rw [if_pos ax]
      have ty : strIterType y = "str_ascii_iterator" := by unfold strIterType; rw [if_pos ay]
      refine zip_begins2 (begins_text x t) (begins_text y u) trivial trivial fun h' hz hTI hTO h1 h2 hsz hk => wpAny_pyIter_zip hz ?_
      have I2 : Inv X pins σ H1 { s1 with heap := h' } := I1.kept (t' := s1.toks) hk
      exact ⟨s1.heap.objs.size + 4, [s1.heap.objs.size + 4, s1.heap.objs.size + 2, s1.heap.objs.size + 3, s1.heap.objs.size, s1.heap.objs.size + 1], _, _, H1, rfl, I2, turn_zipTT (x := x) (y := y) (t := t) (u := u) sep_tt, ⟨hz, hTI, ⟨_, _, hTO⟩, ⟨_, h1, by rw [tx], rfl⟩, ⟨_, h2, by rw [ty], rfl⟩⟩, fresh5, q⟩
theorem op_mulS {X : Cx} : OpR X (binaryOp .Mult) (fun x y H Q => ∃ (z : Str) (n : Int), x = .str z ∧ y = .int n ∧ 1 ≤ n ∧ n ≤ 1000 ∧ z.length ≤ 1000 ∧ Q (.str (Txt.mul z n)) H) := by
  intro pins s σ H x y v u Q I rx ry h
  obtain ⟨z, n, rfl, rfl, n1, n2, hz, q⟩ := h
  obtain ⟨t, rfl⟩ := rx
  obtain ⟨t', rfl⟩ := ry
  have ok : MulOk z n := by
    refine ⟨?_, fun _ _ => ?_, fun _ _ => ?_⟩
    · rw [decide_eq_false (by omega), decide_eq_false (by omega)]; rfl
    · have : (2 ^ 63 - 1 : Int) / 1000 ≤ (2 ^ 63 - 1) / n := by
        have e : (2 ^ 63 - 1 : Int) / 1000 = 9223372036854775 := by decide
        rw [e, Int.le_ediv_iff_mul_le (by omega)]
        omega
      have e : (2 ^ 63 - 1 : Int) / 1000 = 9223372036854775 := by decide
      omega
    · have : z.length * n.toNat ≤ 1000 * 1000 := Nat.mul_le_mul hz (by omega)
      have hs : sizeLine = 16777216 := rfl
      exact decide_eq_false (by omega)
  exact PySem.SB.mul ok fun t' k => ⟨.str _, H, I.tok _, ⟨_, rfl⟩, q⟩
def mulSW (x y : W) (h : Hh) : Option (W × Hh) := match x, y with
  | .dat (.str z), .dat (.int n) => if 1 ≤ n ∧ n ≤ 1000 ∧ z.length ≤ 1000 then ok (.str (Txt.mul z n)) h else none
  | _, _ => none
theorem s_mulS : Sem2 (fun x y H Q => ∃ (z : Str) (n : Int), x = .str z ∧ y = .int n ∧ 1 ≤ n ∧ n ≤ 1000 ∧ z.length ≤ 1000 ∧ Q (.str (Txt.mul z n)) H) mulSW := by
  intro M H h x y wx wy Q rep rx ry c
  unfold mulSW at c
  split at c
  · rename_i z n
    cases (show RD M H x _ from rx)
    cases (show RD M H y _ from ry)
    split at c
    · rename_i hz
      exact ⟨z, n, rfl, rfl, hz.1, hz.2.1, hz.2.2, c.here rep (.str _)⟩
    · exact c.no.elim
  · exact c.no.elim
theorem d_mulS {X : Cx} {a b : Expr} {pos : Pos} {f g : EM} (ha : DE X a f) (hb : DE X b g) : DE X (.BinOp a .Mult b pos) (f2 mulSW f g) := d_op op_mulS s_mulS ha hb
end DL
set_option maxRecDepth 100000
set_option maxHeartbeats 1000000
namespace DL
open PySem PySem.Spec PyProof.Rows L2
variable [HW]
theorem itb_zipTT {M : Mm} {H : Hp} {x y : Str} : ItB M H (ItzTT x y) (zipD (signs x) (signs y)) := fun M1 H1 ext tr => by
  have lx : (signs x).length = x.cps.size := by simp [signs]
  have ly : (signs y).length = y.cps.size := by simp [signs]
  have get : ∀ {z : Str} {i : Nat} {d : D}, (signs z)[i]? = some d → ∃ c, z.cps[i]? = some c ∧ d = .str ⟨#[c]⟩ := fun {z i d} e => by
    unfold signs at e
    rw [List.getElem?_map] at e
    cases q : z.cps.toList[i]? with
    | none => rw [q] at e; cases e
    | some c =>
      rw [q] at e
      exact ⟨c, by simpa using q, by cases e; rfl⟩
  refine ⟨fun i d e => ?_, by show (zipD _ _).length = _; rw [zipD_len, lx, ly]⟩
  obtain ⟨d1, d2, e1, e2, rfl⟩ := zipD_get e
  obtain ⟨c1, g1, rfl⟩ := get e1
  obtain ⟨c2, g2, rfl⟩ := get e2
  have l1 := lt_of_get e1
  have l2 := lt_of_get e2
  refine ⟨⟨by omega, by omega⟩, fun v H2 hy => ?_⟩
  obtain ⟨T, c, d, rfl, nT, rfl, hc, hd⟩ := hy
  rw [g1] at hc; cases hc
  rw [g2] at hd; cases hd
  exact ⟨same_new nT, T, _, _, rfl, rfl, upd_same, .cons (.str _) (.cons (.str _) .nil)⟩
def zipTB (g : AM) : IM := fun ρ h => obnd (g ρ h) fun ws h1 => match ws with
  | [.dat (.str x), .dat (.str y)] => if asciiB x = true ∧ asciiB y = true then some (zipD (signs x) (signs y), h1) else none
  | _ => none
theorem di_zipTB {X : Cx} (hm : X.mg "zip" = none) {e e2 : Expr} {elts : List Expr} {kk : Nat} {p pos tpos : Pos} {g : AM} (ha : DA X [e, e2] g) (hg : Gl X "zip" := by rfl) (hs : starEach [e, e2] X.env = (false, eval e X.env) :: starEach [e2] X.env := by rfl) (hpl : (backTo pos (starEach [e2] X.env)).any (·.1) = false := by rfl) :
    DIB X (.Tuple elts kk tpos) (.Call (.Name "zip" p) [e, e2] [] pos) (zipTB g) := (pi_zipTT hg hm ha hs hpl).weak fun σ H R => by
  rintro ⟨M, h, ρ, ds, h', r, rs, e, q⟩
  unfold zipTB at e
  cases ef : g ρ h with
  | none => rw [ef] at e; cases e
  | some p =>
    obtain ⟨ws, h1⟩ := p
    rw [ef] at e
    simp only [obnd_some] at e
    split at e
    · split at e
      rotate_left
      · cases e
      rename_i ok
      cases e
      refine ⟨M, h, ρ, r, rs, _, _, ef, fun M1 H1 v x1 r1 v1 => ?_⟩
      obtain ⟨v, v', rfl, rv, rv'⟩ := rvs2 v1
      cases (show RD M1 H1 v _ from rv)
      cases (show RD M1 H1 v' _ from rv')
      exact ⟨_, _, rfl, ok.1, ok.2, q M1 H1 _ x1 r1 itb_zipTT⟩
    · cases e
end DL
set_option maxRecDepth 100000
namespace DL
open PySem L2
variable [HW]
noncomputable def m__law_box : FM := fnM true 2 3 (sSeq (sAsg (fC (.int 0)) (gN 2))
    (sSeq (sIf (fB (f2 lt_W (fVar 1) (fA lenW (fCons (fVar 0) (fNil))))) (sAsg (f2 idxW (fVar 0) (fVar 1)) (gN 2)) (sSkip))
    (sRet (fA (lstW true) (fCons (f2 (mulW false) (fA absW (fCons (fVar 2) (fNil))) (fA intC (fCons (f2 ge_W (fA absW (fCons (fVar 2) (fNil))) (f2 powW (fC (.int 10)) (fC (.int 18)))) (fNil)))) (fCons (f2 (addW false) (f2 (addW false) (f2 modW (fVar 2) (fC (.int 2147483629))) (f2 (mulW false) (fC (.int 7919)) (fVar 1))) (fC (.int 11))) (fCons (fC (.int 0)) (fNil))))))))
noncomputable def m__law_take : FM := fnM false 2 4 (sSeq (sIf (fB (f2 gt_W (f2 idxW (fVar 0) (fC (.int 0))) (fC (.int 0)))) (sSeq (sAsg (f2 modW (f2 idxW (fVar 0) (fC (.int 0))) (fVar 1)) (gN 3))
    (sSeq (sSub (f2 divW (f2 idxW (fVar 0) (fC (.int 0))) (fVar 1)) (fVar 0) (fC (.int 0)))
    (sRet (fVar 3)))) (sSkip))
    (sSeq (sSub (f2 (addW false) (f2 idxW (fVar 0) (fC (.int 2))) (fC (.int 1))) (fVar 0) (fC (.int 2)))
    (sSeq (sAsg (f2 modW (f2 powW (f2 (addW false) (f2 idxW (fVar 0) (fC (.int 1))) (f2 (mulW false) (fC (.int 39373)) (f2 idxW (fVar 0) (fC (.int 2))))) (fC (.int 5))) (fC (.int 2147483647))) (gN 2))
    (sRet (f2 modW (f2 divW (f2 modW (f2 (addW false) (f2 (mulW false) (fVar 2) (f2 (addW false) (f2 modW (fVar 2) (fC (.int 40009))) (fC (.int 7)))) (f2 (mulW false) (f2 idxW (fVar 0) (fC (.int 2))) (fC (.int 7919)))) (fC (.int 2147483629))) (fC (.int 64))) (fVar 1))))))
noncomputable def m__law_same : Nat → FM
  | 0 => fun _ _ => none
  | n + 1 => fnM false 2 4 (sSeq (sIf (fB (f1 (isiW ["list", "tuple"]) (fVar 1))) (sSeq (sIf (bOr (fB (f2 (eqW true) (f1 (isiW ["list"]) (fVar 0)) (f1 (isiW ["list"]) (fVar 1)))) (fB (f2 (eqW true) (f1 (isiW ["tuple"]) (fVar 0)) (f1 (isiW ["tuple"]) (fVar 1))))) (sRet (fC (.bool false))) (sSkip))
    (sSeq (sIf (fB (f2 (eqW true) (fA lenW (fCons (fVar 0) (fNil))) (fA lenW (fCons (fVar 1) (fNil))))) (sRet (fC (.bool false))) (sSkip))
    (sRet (fA allW (fCons (fLc false (zipI (fCons (fVar 0) (fCons (fVar 1) (fNil)))) (gT 2 (gC (gN 2) (gC (gN 3) (gE)))) (bYes) (fA (m__law_same n) (fCons (fVar 2) (fCons (fVar 3) (fNil)))) [2, 3]) (fNil)))))) (sSkip))
    (sSeq (sIf (bOr (fB (f2 (isW false) (fVar 1) (fC .none))) (fB (f1 (isiW ["str"]) (fVar 1)))) (sRet (fAnd (f2 (eqW false) (fVar 0) (fVar 1)) (f2 (eqW false) (f1 (isiW ["str"]) (fVar 0)) (f1 (isiW ["str"]) (fVar 1))))) (sSkip))
    (sRet (fAnd (f1 (isiW ["int"]) (fVar 0)) (fAnd (f2 (eqW false) (f1 (isiW ["bool"]) (fVar 0)) (f1 (isiW ["bool"]) (fVar 1))) (f2 (eqW false) (fVar 0) (fVar 1)))))))
noncomputable def m__law_strewn : FM := fnM false 2 4 (sSeq (sAsg (fA (lstW true) (fNil)) (gN 2))
    (sSeq (sFor (seqI (fVar 1)) (gN 3)
    (sExpr (fM isL insertW (fVar 2) (fCons (fA (m__law_take) (fCons (fVar 0) (fCons (f2 (addW false) (fA lenW (fCons (fVar 2) (fNil))) (fC (.int 1))) (fNil)))) (fCons (fVar 3) (fNil))))))
    (sRet (fVar 2))))
noncomputable def m__law_crew : FM := fnM false 2 9 (sSeq (sPar (fCons (f2 (addW false) (fC (.int 1)) (fA (m__law_take) (fCons (fVar 0) (fCons (fVar 1) (fNil))))) (fCons (fC (.str "abcdefghijklmnopqrstuvwxyz")) (fCons (fA (lstW true) (fNil)) (fNil)))) [3, 4, 5])
    (sSeq (sPar (fCons (fA (m__law_take) (fCons (fVar 0) (fCons (fC (.int 26)) (fNil)))) (fCons (f2 idxW (fA (lstW false) (fCons (fC (.int 1)) (fCons (fC (.int 3)) (fCons (fC (.int 25)) (fNil))))) (fA (m__law_take) (fCons (fVar 0) (fCons (fC (.int 3)) (fNil))))) (fNil))) [6, 7])
    (sSeq (sFor (rng1I (fCons (fVar 3) (fNil))) (gN 2)
    (sSeq (sAsg (f2 idxW (fVar 4) (f2 modW (f2 (addW false) (fVar 6) (f2 (mulW false) (fVar 7) (f2 divW (fVar 2) (fC (.int 2))))) (fC (.int 26)))) (gN 8))
    (sExpr (fM isL appendW (fVar 5) (fCons (f2 (addW false) (fVar 8) (f2 idxW (fA (lstW false) (fCons (fC (.str "")) (fCons (fC (.str "a")) (fCons (fC (.str "zz")) (fNil))))) (f2 (mulW false) (f2 modW (fVar 2) (fC (.int 2))) (f2 (addW false) (fC (.int 1)) (f2 modW (fVar 6) (fC (.int 2))))))) (fNil))))))
    (sFrz 5 (sRet (fA (m__law_strewn) (fCons (fVar 0) (fCons (fVar 5) (fNil)))))))))
end DL
namespace DL
open PySem L2
variable [HW]
noncomputable def m_is_name : FM := fnM false 1 2 (sRet (fAnd (f1 (isiW ["str"]) (fVar 0)) (fAnd (fChain le_W le_W (fC (.int 1)) (fA lenW (fCons (fVar 0) (fNil))) (fC (.int 6))) (fA allW (fCons (fLc false (strI (fVar 0)) (gN 1) (bYes) (f2 (inW false) (fVar 1) (fC (.str "abcdefghijklmnopqrstuvwxyz"))) [1]) (fNil))))))
noncomputable def m_is_row : FM := fnM false 1 2 (sSeq (sIf (bOr (bNot (fB (f1 (isiW ["tuple"]) (fVar 0)))) (bOr (fB (f2 (eqW false) (fA lenW (fCons (fVar 0) (fNil))) (fC (.int 0)))) (bNot (fB (fA allW (fCons (fLc false (seqI (fVar 0)) (gN 1) (bYes) (fA (m_is_name) (fCons (fVar 1) (fNil))) [1]) (fNil))))))) (sRet (fC (.bool false))) (sSkip))
    (sRet (f2 (eqW false) (fA lenW (fCons (fDc false (seqI (fVar 0)) (gN 1) (bYes) (fVar 1) (fC (.bool true)) [1]) (fNil))) (fA lenW (fCons (fVar 0) (fNil))))))
end DL
set_option maxRecDepth 100000
set_option maxHeartbeats 400000
namespace DL
open PySem L2
variable [HW]
@[reducible] def Dm {α : Sort u} (_ : α) : Type := Unit
def ob {α β : Type} (k : α → Hh → Option (β × Hh)) (u : Dm k) (r : Option (α × Hh)) : Option (β × Hh) := obnd r k
theorem obnd_x {α β : Type} (r : Option (α × Hh)) (k : α → Hh → Option (β × Hh)) : obnd r k = ob k () r := rfl
theorem ob_some {α β : Type} (k : α → Hh → Option (β × Hh)) (u : Dm k) (a : α) (h : Hh) : ob k u (some (a, h)) = k a h := rfl
def sb {α : Type} (k : α → Hh → Option (Out × Hh)) (u : Dm k) (r : Option (α × Hh)) : Option (Out × Hh) := sbnd r k
theorem sbnd_x {α : Type} (r : Option (α × Hh)) (k : α → Hh → Option (Out × Hh)) : sbnd r k = sb k () r := rfl
theorem sb_some {α : Type} (k : α → Hh → Option (Out × Hh)) (u : Dm k) (a : α) (h : Hh) : sb k u (some (a, h)) = k a h := rfl
def seqK (g : SM) (u : Dm g) (r : Option (Out × Hh)) : Option (Out × Hh) := match r with
  | some (.nx ρ1, h1) => g ρ1 h1
  | r => r
theorem sSeq_e (f g : SM) (ρ : Env) (h : Hh) : sSeq f g ρ h = seqK g () (f ρ h) := rfl
theorem seqK_nx (g : SM) (u : Dm g) (ρ : Env) (h : Hh) : seqK g u (some (.nx ρ, h)) = g ρ h := rfl
theorem seqK_rt (g : SM) (u : Dm g) (w : W) (h : Hh) : seqK g u (some (.rt w, h)) = some (.rt w, h) := rfl
theorem seqK_bk (g : SM) (u : Dm g) (ρ : Env) (h : Hh) : seqK g u (some (.bk ρ, h)) = some (.bk ρ, h) := rfl
theorem seqK_ct (g : SM) (u : Dm g) (ρ : Env) (h : Hh) : seqK g u (some (.ct ρ, h)) = some (.ct ρ, h) := rfl
def frK (g : SM) (u : Dm g) (r : Option (Env × Hh)) : Option (Out × Hh) := match r with
  | some (ρ, h) => g ρ h
  | none => none
theorem sFrz_e (i : Nat) (f : SM) (ρ : Env) (h : Hh) : sFrz i f ρ h = frK f () (frz i ρ h) := rfl
theorem frK_some (g : SM) (u : Dm g) (ρ : Env) (h : Hh) : frK g u (some (ρ, h)) = g ρ h := rfl
theorem isR_ref (n m : Nat) : isR n (some (.ref m)) = decide (m = n) := rfl
theorem isR_dat (n : Nat) (d : D) : isR n (some (.dat d)) = false := rfl
theorem isR_none (n : Nat) : isR n none = false := rfl
def retK (rm : Bool) (h : Hh) (r : Option (Out × Hh)) : Option (W × Hh) := match r with
    | some (.rt w, h') => leave rm h w h'
    | some (.nx _, h') => leave rm h (.dat .none) h'
    | _ => none
theorem retK_rt (rm : Bool) (h : Hh) (w : W) (h' : Hh) : retK rm h (some (.rt w, h')) = leave rm h w h' := rfl
theorem retK_nx (rm : Bool) (h : Hh) (ρ : Env) (h' : Hh) : retK rm h (some (.nx ρ, h')) = leave rm h (.dat .none) h' := rfl
def iteK {α : Type} (x y : α) (u : Dm (x, y)) (b : Bool) : α := if b = true then x else y
theorem ite_x {α : Type} (b : Bool) (x y : α) : (if b = true then x else y) = iteK x y () b := rfl
theorem iteK_t {α : Type} (x y : α) (u : Dm (x, y)) : iteK x y u true = x := rfl
theorem iteK_f {α : Type} (x y : α) (u : Dm (x, y)) : iteK x y u false = y := rfl
theorem subW_e (x y : W) (h : Hh) : subW x y h = intW (fun _ _ => true) (fun i j => i - j) x y h := rfl
theorem modW_e (x y : W) (h : Hh) : modW x y h = intW (fun _ j => decide (0 < j)) (fun i j => i % j) x y h := rfl
theorem divW_e (x y : W) (h : Hh) : divW x y h = intW (fun _ j => decide (0 < j ∧ j < 1073741824)) (fun i j => i / j) x y h := rfl
theorem powW_e (x y : W) (h : Hh) : powW x y h = intW (fun i j => decide (0 ≤ j ∧ j ≤ 1000000 ∧ i.natAbs < 18446744073709551616)) (fun i j => i ^ j.toNat) x y h := rfl
theorem lt_e (x y : W) (h : Hh) : lt_W x y h = ltW (fun i j => decide (i < j)) (fun i j => decide (i < j)) x y h := rfl
theorem gt_e (x y : W) (h : Hh) : gt_W x y h = ltW (fun i j => decide (j < i)) (fun i j => decide (j < i)) x y h := rfl
theorem le_e (x y : W) (h : Hh) : le_W x y h = ltW (fun i j => decide (i ≤ j)) (fun i j => !decide (j < i)) x y h := rfl
theorem ge_e (x y : W) (h : Hh) : ge_W x y h = ltW (fun i j => decide (j ≤ i)) (fun i j => !decide (i < j)) x y h := rfl
theorem allW_e (ws : List W) (h : Hh) : allW ws h = lW bools (fun bs => .bool (bs.all id)) ws h := rfl
theorem anyW_e (ws : List W) (h : Hh) : anyW ws h = lW bools (fun bs => .bool (bs.any id)) ws h := rfl
theorem sumW_e (ws : List W) (h : Hh) : sumW ws h = lW intsD (fun bs => .int bs.sum) ws h := rfl
theorem fnM_e (rm : Bool) (np nl : Nat) (body : SM) (ws : List W) (h : Hh) (e : ws.length = np) : fnM rm np nl body ws h = retK rm h (body (ws.map some ++ List.replicate (nl - np) none) h) := by
  unfold fnM
  rw [if_pos e]
  rfl
theorem iLT_none : (["list", "tuple"].any fun t => isT1 t (.none : D)) = false := by rfl
theorem iLT_bool (b : Bool) : (["list", "tuple"].any fun t => isT1 t (.bool b : D)) = false := by rfl
theorem iLT_int (i : Int) : (["list", "tuple"].any fun t => isT1 t (.int i : D)) = false := by rfl
theorem iLT_str (s : Str) : (["list", "tuple"].any fun t => isT1 t (.str s : D)) = false := by rfl
theorem iLT_list (ds : List D) : (["list", "tuple"].any fun t => isT1 t (.list ds : D)) = true := by rfl
theorem iLT_tup (ds : List D) : (["list", "tuple"].any fun t => isT1 t (.tuple ds : D)) = true := by rfl
theorem iL_none : (["list"].any fun t => isT1 t (.none : D)) = false := by rfl
theorem iL_bool (b : Bool) : (["list"].any fun t => isT1 t (.bool b : D)) = false := by rfl
theorem iL_int (i : Int) : (["list"].any fun t => isT1 t (.int i : D)) = false := by rfl
theorem iL_str (s : Str) : (["list"].any fun t => isT1 t (.str s : D)) = false := by rfl
theorem iL_list (ds : List D) : (["list"].any fun t => isT1 t (.list ds : D)) = true := by rfl
theorem iL_tup (ds : List D) : (["list"].any fun t => isT1 t (.tuple ds : D)) = false := by rfl
theorem iT_none : (["tuple"].any fun t => isT1 t (.none : D)) = false := by rfl
theorem iT_bool (b : Bool) : (["tuple"].any fun t => isT1 t (.bool b : D)) = false := by rfl
theorem iT_int (i : Int) : (["tuple"].any fun t => isT1 t (.int i : D)) = false := by rfl
theorem iT_str (s : Str) : (["tuple"].any fun t => isT1 t (.str s : D)) = false := by rfl
theorem iT_list (ds : List D) : (["tuple"].any fun t => isT1 t (.list ds : D)) = false := by rfl
theorem iT_tup (ds : List D) : (["tuple"].any fun t => isT1 t (.tuple ds : D)) = true := by rfl
theorem iS_none : (["str"].any fun t => isT1 t (.none : D)) = false := by rfl
theorem iS_bool (b : Bool) : (["str"].any fun t => isT1 t (.bool b : D)) = false := by rfl
theorem iS_int (i : Int) : (["str"].any fun t => isT1 t (.int i : D)) = false := by rfl
theorem iS_str (s : Str) : (["str"].any fun t => isT1 t (.str s : D)) = true := by rfl
theorem iS_list (ds : List D) : (["str"].any fun t => isT1 t (.list ds : D)) = false := by rfl
theorem iS_tup (ds : List D) : (["str"].any fun t => isT1 t (.tuple ds : D)) = false := by rfl
theorem iI_none : (["int"].any fun t => isT1 t (.none : D)) = false := by rfl
theorem iI_bool (b : Bool) : (["int"].any fun t => isT1 t (.bool b : D)) = true := by rfl
theorem iI_int (i : Int) : (["int"].any fun t => isT1 t (.int i : D)) = true := by rfl
theorem iI_str (s : Str) : (["int"].any fun t => isT1 t (.str s : D)) = false := by rfl
theorem iI_list (ds : List D) : (["int"].any fun t => isT1 t (.list ds : D)) = false := by rfl
theorem iI_tup (ds : List D) : (["int"].any fun t => isT1 t (.tuple ds : D)) = false := by rfl
theorem iB_none : (["bool"].any fun t => isT1 t (.none : D)) = false := by rfl
theorem iB_bool (b : Bool) : (["bool"].any fun t => isT1 t (.bool b : D)) = true := by rfl
theorem iB_int (i : Int) : (["bool"].any fun t => isT1 t (.int i : D)) = false := by rfl
theorem iB_str (s : Str) : (["bool"].any fun t => isT1 t (.str s : D)) = false := by rfl
theorem iB_list (ds : List D) : (["bool"].any fun t => isT1 t (.list ds : D)) = false := by rfl
theorem iB_tup (ds : List D) : (["bool"].any fun t => isT1 t (.tuple ds : D)) = false := by rfl
theorem lcL_map {k : TM} {t : BM} {f : EM} {ρ : Env} {h : Hh} (p : D → Bool) (g : D → D) : ∀ {ds : List D}, (∀ d ∈ ds, ∃ ρ1, k (.dat d) ρ h = some ρ1 ∧ t ρ1 h = some (p d, h) ∧ (p d = true → f ρ1 h = some (.dat (g d), h))) → lcL k t f ρ ds h = some ((ds.filter p).map g, h)
  | [], _ => rfl
  | d :: ds, H => by
    obtain ⟨ρ1, e1, e2, e3⟩ := H d List.mem_cons_self
    have ih := lcL_map (k := k) (t := t) (f := f) (ρ := ρ) (h := h) p g (ds := ds) fun e he => H e (List.mem_cons_of_mem _ he)
    unfold lcL
    simp only [e1, e2, obnd]
    cases hp : p d with
    | true =>
      simp only [if_true]
      rw [e3 hp]
      simp only [ih, List.filter_cons, hp, if_true, List.map_cons]
    | false => simp only [Bool.false_eq_true, if_false, ih, List.filter_cons, hp]
theorem lcL_all {k : TM} {t : BM} {f : EM} {ρ : Env} {h : Hh} (g : D → D) {ds : List D} (H : ∀ d ∈ ds, ∃ ρ1, k (.dat d) ρ h = some ρ1 ∧ t ρ1 h = some (true, h) ∧ f ρ1 h = some (.dat (g d), h)) : lcL k t f ρ ds h = some (ds.map g, h) := by
  have := lcL_map (k := k) (t := t) (f := f) (ρ := ρ) (h := h) (fun _ => true) g (ds := ds) fun d hd => by
    obtain ⟨ρ1, a, b, c⟩ := H d hd
    exact ⟨ρ1, a, b, fun _ => c⟩
  rwa [List.filter_eq_self.mpr (fun _ _ => rfl)] at this
theorem lcL_inv {k : TM} {f : EM} {ρ : Env} (I : Nat → Hh → Prop) (R : Nat → D → Prop) : ∀ {ds : List D} {n : Nat} {h : Hh}, I n h → (∀ (j : Nat) (d : D), ds[j]? = some d → ∀ h, I (n + j) h → ∃ ρ1 d' h', k (.dat d) ρ h = some ρ1 ∧ f ρ1 h = some (.dat d', h') ∧ R (n + j) d' ∧ I (n + j + 1) h') →
    ∃ rs h', lcL k bYes f ρ ds h = some (rs, h') ∧ rs.length = ds.length ∧ (∀ (j : Nat) (r : D), rs[j]? = some r → R (n + j) r) ∧ I (n + ds.length) h'
  | [], n, h, i, _ => ⟨[], h, rfl, rfl, (fun j r hr => by simp at hr), i⟩
  | d :: ds, n, h, i, H => by
    obtain ⟨ρ1, d', h1, e1, e2, r, i1⟩ := H 0 d rfl h i
    obtain ⟨rs, h2, e3, hl, hr, i2⟩ := lcL_inv (k := k) (f := f) (ρ := ρ) I R (ds := ds) (n := n + 1) i1 fun j e he h q => by
      have := H (j + 1) e (by simpa using he) h (by rw [← show n + 1 + j = n + (j + 1) by omega]; exact q)
      rw [show n + 1 + j = n + (j + 1) by omega]
      exact this
    refine ⟨d' :: rs, h2, ?_, by simp [hl], ?_, ?_⟩
    · unfold lcL
      simp only [e1, bYes, obnd, if_true, e2]
      rw [e3]
    · intro j x hx
      cases j with
      | zero => simp at hx; subst hx; exact r
      | succ j =>
        have := hr j x (by simpa using hx)
        rw [show n + 1 + j = n + (j + 1) by omega] at this
        exact this
    · rw [List.length_cons, show n + (ds.length + 1) = n + 1 + ds.length by omega]; exact i2
theorem forL_inv {k : TM} {body : SM} (I : Nat → Env → Hh → Prop) : ∀ {ds : List D} {n : Nat} {ρ : Env} {h : Hh}, I n ρ h → (∀ (j : Nat) (d : D), ds[j]? = some d → ∀ ρ h, I (n + j) ρ h → ∃ ρ1 ρ2 h2, k (.dat d) ρ h = some ρ1 ∧ body ρ1 h = some (.nx ρ2, h2) ∧ I (n + j + 1) ρ2 h2) →
    ∃ ρ' h', forL k body ds ρ h = some (.nx ρ', h') ∧ I (n + ds.length) ρ' h'
  | [], n, ρ, h, i, _ => ⟨ρ, h, rfl, i⟩
  | d :: ds, n, ρ, h, i, H => by
    obtain ⟨ρ1, ρ2, h2, e1, e2, i2⟩ := H 0 d rfl ρ h i
    obtain ⟨ρ', h', e3, i3⟩ := forL_inv (k := k) (body := body) I (ds := ds) (n := n + 1) i2 fun j e he ρ h q => by
      obtain ⟨a, b, c, x, y, z⟩ := H (j + 1) e (by simpa using he) ρ h (by rw [← show n + 1 + j = n + (j + 1) by omega]; exact q)
      exact ⟨a, b, c, x, y, by rw [show n + 1 + j + 1 = n + (j + 1) + 1 by omega]; exact z⟩
    refine ⟨ρ', h', ?_, by rw [List.length_cons, show n + (ds.length + 1) = n + 1 + ds.length by omega]; exact i3⟩
    unfold forL
    simp only [e1, e2, e3]
theorem getK_cons (e : D × D) (es : List (D × D)) (k : Key) : getK (e :: es) k = if dKey e.1 = some k then some e.2 else getK es k := by
  unfold getK
  rw [List.find?_cons]
  by_cases h : dKey e.1 = some k
  · simp [h]
  · simp [h]
def sdic (l : List (Str × D)) : List (D × D) := l.map fun p => (.str p.1, p.2)
theorem dKey_str (s : Str) : dKey (.str s) = some (.inr s) := rfl
theorem getK_sdic (s : Str) : ∀ l : List (Str × D), getK (sdic l) (.inr s) = l.lookup s
  | [] => rfl
  | (t, d) :: l => by
    show getK ((.str t, d) :: sdic l) (.inr s) = _
    rw [getK_cons, getK_sdic s l, List.lookup_cons, dKey_str]
    by_cases h : t = s
    · subst h; simp
    · have h1 : ¬ (some (Sum.inr t : Key) = some (Sum.inr s)) := fun z => h (by cases z; rfl)
      have h2 : (s == t) = false := by simpa using fun z => h z.symm
      rw [if_neg h1, h2]
theorem isT_sdic : ∀ l : List (Str × D), isT (sdic l) = false
  | [] => rfl
  | (t, d) :: l => rfl
theorem sdic_snoc (l : List (Str × D)) (s : Str) (d : D) : sdic (l ++ [(s, d)]) = sdic l ++ [(.str s, d)] := by simp [sdic]
theorem putK_sdic {l : List (Str × D)} {s : Str} (d : D) (h : l.lookup s = none) : putK' (sdic l) (.inr s) d = sdic (l ++ [(s, d)]) := by
  unfold putK'
  rw [getK_sdic, h, sdic_snoc]
  rfl
theorem lookup_none {l : List (Str × D)} {s : Str} (h : s ∉ l.map (·.1)) : l.lookup s = none := by
  induction l with
  | nil => rfl
  | cons p l ih =>
    obtain ⟨t, d⟩ := p
    simp only [List.map_cons, List.mem_cons, not_or] at h
    rw [List.lookup_cons, show (s == t) = false by simpa using h.1]
    exact ih h.2
end DL
set_option maxRecDepth 100000
set_option maxHeartbeats 400000
namespace DL
open PySem L2
variable [HW]
local macro_rules | `(tactic| walk_at "dl") => `(tactic| simp (config := { dsimp := false }) only [↓fnM_e, ↓sSeq_e, seqK_nx, seqK_rt, seqK_bk, seqK_ct, retK_rt, retK_nx, ↓sFrz_e, frK_some, ↓sAsg, ↓sRet, ↓sRetN, ↓sIf, ↓sExpr, ↓sSkip, ↓sNever, ↓sPar, ↓sFor, ↓sSub, ↓fVar, ↓fC, ↓fNil, ↓fCons, ↓fA, ↓f1, ↓f2, ↓fB, ↓fIf, ↓fNeg, ↓fNot, ↓fAnd, ↓fOr, ↓bNot, ↓bAnd, ↓bOr, ↓bYes, ↓obnd_x, ob_some, ↓sbnd_x, sb_some, ↓ite_x, iteK_t, iteK_f, gN, gT, gC, gE, ↓rng1I, ↓rng2I, ↓seqI, ↓enumA, ↓zipI, ↓strI, ↓fLc, ↓fDc, ↓fM, ↓fSl, ↓oNone, ↓oSome, ↓fRev, wipeE, ↓kwM, permM, permL, List.foldr, List.length_cons, List.length_nil, List.map_cons, List.map_nil, List.cons_append, List.nil_append, List.replicate, List.replicate_succ, List.replicate_zero, List.getElem?_cons_zero, List.getElem?_cons_succ, List.set_cons_zero, List.set_cons_succ, if_true, if_false, reduceIte, Nat.reduceAdd, Nat.reduceSub, Nat.reduceEqDiff, Nat.reduceLT, Nat.reduceLeDiff, Int.reduceLT, Int.reduceLE, Int.reduceNeg, Int.reduceMul, Int.reduceAdd, Int.reduceSub, Int.reduceToNat, Int.reducePow, Int.reduceEq, ok, bok, deref, mkL, lstW, tupW, dats, Option.map_some, appendW, insertW, setL, isL, listW, tupleW, lenW, absW, intC, maxW, minW, idxW, addW, subW_e, modW_e, divW_e, powW_e, mulW, intW, lt_e, gt_e, le_e, ge_e, ltW, allW_e, anyW_e, sumW_e, lW, setW, lstAt, cutW, backW, isW, isiW, iLT_none, iLT_bool, iLT_int, iLT_str, iLT_list, iLT_tup, iL_none, iL_bool, iL_int, iL_str, iL_list, iL_tup, iT_none, iT_bool, iT_int, iT_str, iT_list, iT_tup, iS_none, iS_bool, iS_int, iS_str, iS_list, iS_tup, iI_none, iI_bool, iI_int, iI_str, iI_list, iI_tup, iB_none, iB_bool, iB_int, iB_str, iB_list, iB_tup, Bool.false_eq_true, reduceCtorEq, Bool.not_true, Bool.not_false, decide_true, decide_false, List.zip_cons_cons, List.zip_nil_left, List.foldl_cons, List.foldl_nil, and_self, and_true, true_and, Bool.and_true, Bool.true_and, Bool.or_true, Bool.true_or, *])
def BoxAt (h : Hh) (b c : Nat) : Prop := ∃ d s k : Int, h[b]? = some (some (.lst [.int d, .int s, .int k])) ∧ 0 ≤ d ∧ 0 ≤ s ∧ s < 1099511627776 ∧ 0 ≤ k ∧ k ≤ c
structure Only (b : Nat) (h h' : Hh) : Prop where
  len : h'.length = h.length
  off : ∀ i : Nat, i ≠ b → h'[i]? = h[i]?
theorem Only.refl (b : Nat) (h : Hh) : Only b h h := ⟨rfl, fun _ _ => rfl⟩
theorem Only.trans {b : Nat} {h h1 h2 : Hh} (x : Only b h h1) (y : Only b h1 h2) : Only b h h2 := ⟨y.len.trans x.len, fun i n => (y.off i n).trans (x.off i n)⟩
theorem only_set (b : Nat) (h : Hh) (o : Option MO) : Only b h (h.set b o) := ⟨by simp, fun i n => by rw [List.getElem?_set_ne (fun z => n z.symm)]⟩
theorem BoxAt.mono {h : Hh} {b c c' : Nat} (x : BoxAt h b c) (hc : c ≤ c') : BoxAt h b c' := by
  obtain ⟨d, s, k, e, h1, h2, h3, h4, h5⟩ := x
  exact ⟨d, s, k, e, h1, h2, h3, h4, by omega⟩
theorem BoxAt.lt {h : Hh} {b c : Nat} (x : BoxAt h b c) : b < h.length := by
  obtain ⟨d, s, k, e, _⟩ := x
  exact (List.getElem?_eq_some_iff.mp e).1
theorem live_only {b c c' : Nat} {h h' : Hh} (x : BoxAt h b c) (y : BoxAt h' b c') (o : Only b h h') : live h' = live h := by
  apply List.ext_getElem?
  intro i
  unfold live
  rw [List.getElem?_map, List.getElem?_map]
  by_cases hi : i = b
  · subst hi
    obtain ⟨_, _, _, e1, _⟩ := x
    obtain ⟨_, _, _, e2, _⟩ := y
    rw [e1, e2]
    rfl
  · rw [o.off i hi]
theorem leave_dat {h h' : Hh} {d : D} (e : live (h'.take h.length) = live h) : leave false h (.dat d) h' = some (.dat d, h'.take h.length) := by
  unfold leave
  rw [if_pos e]
theorem leave_dat' {b c c' : Nat} {h h' : Hh} {d : D} (x : BoxAt h b c) (y : BoxAt h' b c') (o : Only b h h') : leave false h (.dat d) h' = some (.dat d, h') := by
  have e : h'.take h.length = h' := List.take_of_length_le (by rw [o.len]; exact Nat.le_refl _)
  rw [leave_dat (by rw [e]; exact live_only x y o), e]
theorem leave_same' {h : Hh} {d : D} : leave false h (.dat d) h = some (.dat d, h) := by
  have e : h.take h.length = h := List.take_of_length_le (Nat.le_refl _)
  rw [leave_dat (by rw [e]), e]
theorem atI3 (x y z : D) : L2.atI [x, y, z] 0 = some x ∧ L2.atI [x, y, z] 1 = some y ∧ L2.atI [x, y, z] 2 = some z := ⟨rfl, rfl, rfl⟩
theorem ix3 : ixN 3 0 = some 0 ∧ ixN 3 1 = some 1 ∧ ixN 3 2 = some 2 := ⟨rfl, rfl, rfl⟩
theorem take_ok {h : Hh} {b c : Nat} {n : Int} (hb : BoxAt h b c) (hc : c < 1099511627776) (h0 : 0 < n) (h1 : n < 1073741824) :
    ∃ r h', m__law_take [.ref b, .dat (.int n)] h = some (.dat (.int r), h') ∧ 0 ≤ r ∧ r < n ∧ BoxAt h' b (c + 1) ∧ Only b h h' := by
  obtain ⟨d, s, k, e, hd, hs, hs2, hk, hk2⟩ := id hb
  have lb := hb.lt
  have a0 := fun x y z : D => (atI3 x y z).1
  have a1 := fun x y z : D => (atI3 x y z).2.1
  have a2 := fun x y z : D => (atI3 x y z).2.2
  have i0 := ix3.1
  have i2 := ix3.2.2
  by_cases hp : 0 < d
  · have y : BoxAt (h.set b (some (.lst [.int (d / n), .int s, .int k]))) b c := ⟨d / n, s, k, by rw [List.getElem?_set_self lb], Int.ediv_nonneg hd (by omega), hs, hs2, hk, hk2⟩
    refine ⟨d % n, h.set b (some (.lst [.int (d / n), .int s, .int k])), ?_, Int.emod_nonneg _ (by omega), Int.emod_lt_of_pos _ h0, y.mono (by omega), only_set _ _ _⟩
    unfold m__law_take
    walk_at "dl"
    exact leave_dat' hb y (only_set _ _ _)
  · have y : BoxAt (h.set b (some (.lst [.int d, .int s, .int (k + 1)]))) b (c + 1) := ⟨d, s, k + 1, by rw [List.getElem?_set_self lb], hd, hs, hs2, by omega, by omega⟩
    have hp' : decide (0 < d) = false := by simpa using hp
    have g1 : (h.set b (some (.lst [.int d, .int s, .int (k + 1)])))[b]? = some (some (.lst [.int d, .int s, .int (k + 1)])) := by rw [List.getElem?_set_self lb]
    have hw : (s + 39373 * (k + 1)).natAbs < 18446744073709551616 := by omega
    have o1 : -18446744073709551616 < (s + 39373 * (k + 1)) ^ 5 % 2147483647 := by omega
    have o2 : (s + 39373 * (k + 1)) ^ 5 % 2147483647 < 18446744073709551616 := by omega
    have k1 : -18446744073709551616 < k + 1 := by omega
    have k2 : k + 1 < 18446744073709551616 := by omega
    refine ⟨((s + 39373 * (k + 1)) ^ 5 % 2147483647 * ((s + 39373 * (k + 1)) ^ 5 % 2147483647 % 40009 + 7) + (k + 1) * 7919) % 2147483629 / 64 % n, h.set b (some (.lst [.int d, .int s, .int (k + 1)])), ?_, Int.emod_nonneg _ (by omega), Int.emod_lt_of_pos _ h0, y, only_set _ _ _⟩
    unfold m__law_take
    walk_at "dl"
    exact leave_dat' hb y (only_set _ _ _)
theorem insert_perm {α : Type} (l : List α) (x : α) (i : Nat) : (l.take i ++ [x] ++ l.drop i).Perm (x :: l) := by
  have h1 : (l.take i ++ [x] ++ l.drop i).Perm ([x] ++ l.take i ++ l.drop i) := List.Perm.append_right _ List.perm_append_comm
  refine h1.trans ?_
  rw [List.append_assoc, List.take_append_drop]
  exact List.Perm.refl _
theorem only_app {b : Nat} {h h' : Hh} {o : Option MO} (hb : b < h.length) (x : Only b (h ++ [o]) h') : Only b h (h'.take h.length) ∧ ∃ g : Hh, h' = g ++ [o] ∧ g.length = h.length := by
  have hl : h'.length = h.length + 1 := by rw [x.len]; simp
  have e : h'[h.length]? = some o := by rw [x.off _ (by omega)]; simp
  have e2 : h' = h'.take h.length ++ [o] := by
    apply List.ext_getElem?
    intro i
    by_cases hi : i < h.length
    · rw [List.getElem?_append_left (by simp; omega), List.getElem?_take_of_lt hi]
    · by_cases hi2 : i = h.length
      · subst hi2
        rw [e, List.getElem?_append_right (by simp; omega)]
        simp [hl]
      · rw [List.getElem?_eq_none (by omega), List.getElem?_eq_none (by simp; omega)]
  refine ⟨⟨by simp [hl], fun i n => ?_⟩, h'.take h.length, e2, by simp [hl]⟩
  by_cases hi : i < h.length
  · rw [List.getElem?_take_of_lt hi, x.off i n, List.getElem?_append_left hi]
  · rw [List.getElem?_eq_none (by simp; omega), List.getElem?_eq_none (by omega)]
theorem box_app {h : Hh} {b c : Nat} {l : Hh} (x : BoxAt h b c) : BoxAt (h ++ l) b c := by
  have lb := x.lt
  obtain ⟨d, s, k, e, r⟩ := x
  exact ⟨d, s, k, by rw [List.getElem?_append_left lb]; exact e, r⟩
theorem box_take {h : Hh} {b c n : Nat} (x : BoxAt h b c) (hb : b < n) : BoxAt (h.take n) b c := by
  obtain ⟨d, s, k, e, r⟩ := x
  exact ⟨d, s, k, by rw [List.getElem?_take_of_lt hb]; exact e, r⟩
theorem take_snoc {α : Type} {l : List α} {n : Nat} {x : α} (e : l[n]? = some x) : l.take (n + 1) = l.take n ++ [x] := by
  rw [List.take_add_one, e]; rfl
theorem strewn_ok {h : Hh} {b c : Nat} {x : D} {ds : List D} (hx : x = .list ds ∨ x = .tuple ds) (hb : BoxAt h b c) (hc : c + ds.length < 1000000000) (hl : ds.length < 1000000) :
    ∃ rs h', m__law_strewn [.ref b, .dat x] h = some (.dat (.list rs), h') ∧ rs.Perm ds ∧ BoxAt h' b (c + ds.length) ∧ Only b h h' := by
  have hz : sizeLine = 16777216 := by rfl
  have key := forL_inv (k := gN 3) (body := sExpr (fM isL insertW (fVar 2) (fCons (fA (m__law_take) (fCons (fVar 0) (fCons (f2 (addW false) (fA lenW (fCons (fVar 2) (fNil))) (fC (.int 1))) (fNil)))) (fCons (fVar 3) (fNil)))))
    (fun n ρ g => ∃ (v : Option W) (rs : List D) (g' : Hh), ρ = [some (.ref b), some (.dat x), some (.ref h.length), v] ∧ g = g' ++ [some (.lst rs)] ∧ g'.length = h.length ∧ rs.Perm (ds.take n) ∧ BoxAt g' b (c + n) ∧ Only b h g') (ds := ds) (n := 0)
    (ρ := [some (.ref b), some (.dat x), some (.ref h.length), none]) (h := h ++ [some (.lst [])])
    ⟨none, [], h, rfl, rfl, rfl, by simp, hb, .refl _ _⟩ (by
      intro j d ej ρ g hi
      obtain ⟨v, rs, g', rfl, rfl, gl, pm, bx, on⟩ := hi
      rw [Nat.zero_add] at pm bx ⊢
      have hj : j < ds.length := (List.getElem?_eq_some_iff.mp ej).1
      have rl : rs.length = j := by rw [pm.length_eq, List.length_take]; omega
      have bg := bx.lt
      obtain ⟨r, g2, e2, r0, r1, bx2, on2⟩ := take_ok (n := (rs.length : Int) + 1) (box_app (l := [some (.lst rs)]) bx) (by omega) (by omega) (by omega)
      obtain ⟨on3, g3, rfl, g3l⟩ := only_app bg on2
      have hg : (g3 ++ [some (MO.lst rs)])[h.length]? = some (some (.lst rs)) := by rw [List.getElem?_append_right (by omega), g3l, gl]; simp
      have hg0 : (g' ++ [some (MO.lst rs)])[h.length]? = some (some (.lst rs)) := by rw [List.getElem?_append_right (by omega), gl]; simp
      have hs : (g3 ++ [some (MO.lst rs)]).set h.length (some (.lst (rs.take r.toNat ++ [d] ++ rs.drop r.toNat))) = g3 ++ [some (.lst (rs.take r.toNat ++ [d] ++ rs.drop r.toNat))] := by
        rw [List.set_append_right _ _ (by omega), show h.length - g3.length = 0 by omega]; rfl
      have c1 : rs.length < sizeLine := by omega
      have c2 : r < 1000000 := by omega
      refine ⟨[some (.ref b), some (.dat x), some (.ref h.length), some (.dat d)], [some (.ref b), some (.dat x), some (.ref h.length), some (.dat d)], g3 ++ [some (.lst (rs.take r.toNat ++ [d] ++ rs.drop r.toNat))], rfl, ?_, _, _, g3, rfl, rfl, by omega, ?_, ?_, ?_⟩
      · clear rl hz
        walk_at "dl"
      · rw [take_snoc ej]
        exact (insert_perm rs d _).trans ((List.Perm.cons d pm).trans (List.perm_append_singleton d _).symm)
      · have := box_take bx2 (n := g3.length) (by omega)
        rw [List.take_append_of_le_length (Nat.le_refl _), List.take_length] at this
        exact this
      · have e : (g3 ++ [some (MO.lst rs)]).take g'.length = g3 := by rw [← g3l, List.take_append_of_le_length (Nat.le_refl _), List.take_length]
        rw [e] at on3
        exact on.trans on3)
  obtain ⟨ρ', h', e, v, rs, g', rfl, rfl, gl, pm, bx, on⟩ := key
  rw [Nat.zero_add, List.take_length] at pm
  rw [Nat.zero_add] at bx
  refine ⟨rs, g', ?_, pm, bx, on⟩
  have hg : (g' ++ [some (MO.lst rs)])[h.length]? = some (some (.lst rs)) := by rw [List.getElem?_append_right (by omega), gl]; simp
  have et : (g' ++ [some (MO.lst rs)]).take h.length = g' := by rw [← gl, List.take_append_of_le_length (Nat.le_refl _), List.take_length]
  have hlv := live_only hb bx on
  have nl : ¬ h.length < h.length := by omega
  unfold m__law_strewn
  rcases hx with rfl | rfl
  · walk_at "dl"
    unfold leave
    walk_at "dl"
  · walk_at "dl"
    unfold leave
    walk_at "dl"
end DL
set_option maxRecDepth 100000
set_option maxHeartbeats 400000
namespace DL
open PySem L2
variable [HW]
local macro_rules | `(tactic| walk_at "dl") => `(tactic| simp (config := { dsimp := false }) only [↓fnM_e, ↓sSeq_e, seqK_nx, seqK_rt, seqK_bk, seqK_ct, retK_rt, retK_nx, ↓sFrz_e, frK_some, ↓sAsg, ↓sRet, ↓sRetN, ↓sIf, ↓sExpr, ↓sSkip, ↓sNever, ↓sPar, ↓sFor, ↓sSub, ↓fVar, ↓fC, ↓fNil, ↓fCons, ↓fA, ↓f1, ↓f2, ↓fB, ↓fIf, ↓fNeg, ↓fNot, ↓fAnd, ↓fOr, ↓bNot, ↓bAnd, ↓bOr, ↓bYes, ↓obnd_x, ob_some, ↓sbnd_x, sb_some, ↓ite_x, iteK_t, iteK_f, gN, gT, gC, gE, ↓rng1I, ↓rng2I, ↓seqI, ↓enumA, ↓zipI, ↓strI, ↓fLc, ↓fDc, ↓fM, ↓fSl, ↓oNone, ↓oSome, ↓fRev, wipeE, ↓kwM, permM, permL, List.foldr, List.length_cons, List.length_nil, List.map_cons, List.map_nil, List.cons_append, List.nil_append, List.replicate, List.replicate_succ, List.replicate_zero, List.getElem?_cons_zero, List.getElem?_cons_succ, List.set_cons_zero, List.set_cons_succ, if_true, if_false, reduceIte, Nat.reduceAdd, Nat.reduceSub, Nat.reduceEqDiff, Nat.reduceLT, Nat.reduceLeDiff, Int.reduceLT, Int.reduceLE, Int.reduceNeg, Int.reduceMul, Int.reduceAdd, Int.reduceSub, Int.reduceToNat, Int.reducePow, Int.reduceEq, ok, bok, deref, mkL, lstW, tupW, dats, Option.map_some, appendW, insertW, setL, isL, listW, tupleW, lenW, absW, intC, maxW, minW, idxW, addW, subW_e, modW_e, divW_e, powW_e, mulW, intW, lt_e, gt_e, le_e, ge_e, ltW, allW_e, anyW_e, sumW_e, lW, setW, lstAt, cutW, backW, isW, isiW, iLT_none, iLT_bool, iLT_int, iLT_str, iLT_list, iLT_tup, iL_none, iL_bool, iL_int, iL_str, iL_list, iL_tup, iT_none, iT_bool, iT_int, iT_str, iT_list, iT_tup, iS_none, iS_bool, iS_int, iS_str, iS_list, iS_tup, iI_none, iI_bool, iI_int, iI_str, iI_list, iI_tup, iB_none, iB_bool, iB_int, iB_str, iB_list, iB_tup, Bool.false_eq_true, reduceCtorEq, Bool.not_true, Bool.not_false, decide_true, decide_false, List.zip_cons_cons, List.zip_nil_left, List.foldl_cons, List.foldl_nil, and_self, and_true, true_and, Bool.and_true, Bool.true_and, Bool.or_true, Bool.true_or, *])
theorem cps_app (a b : Str) : (a ++ b).cps.toList = a.cps.toList ++ b.cps.toList := by
  show (a.cps ++ b.cps).toList = _
  simp
theorem len_app (a b : Str) : (a ++ b).length = a.length + b.length := by
  show (a.cps ++ b.cps).size = _
  simp [Str.length]
def lt1 (i : Nat) : Str := ⟨#[97 + i]⟩
def sfx : Nat → Str
  | 0 => ""
  | 1 => "a"
  | _ => "zz"
def nm (st sp at_ : Nat) : Str := lt1 ((st + sp * (at_ / 2)) % 26) ++ sfx (at_ % 2 * (1 + st % 2))
theorem sfx_len : (sfx 0).cps.toList = [] ∧ (sfx 1).cps.toList = [97] ∧ (sfx 2).cps.toList = [122, 122] := by decide +kernel
def Steps (sp : Nat) : Prop := sp = 1 ∨ sp = 3 ∨ sp = 25
theorem nm_cps (st sp a : Nat) : (nm st sp a).cps.toList = (97 + (st + sp * (a / 2)) % 26) :: (sfx (a % 2 * (1 + st % 2))).cps.toList := by
  unfold nm
  rw [cps_app]
  rfl
theorem nm_inj {st sp a b : Nat} (hs : Steps sp) (ha : a < 52) (hb : b < 52) (e : nm st sp a = nm st sp b) : a = b := by
  have e' := congrArg (fun s : Str => s.cps.toList) e
  simp only [nm_cps, List.cons.injEq] at e'
  obtain ⟨e1, e2⟩ := e'
  have e3 : a / 2 = b / 2 := by
    rcases hs with rfl | rfl | rfl <;> omega
  have e4 : a % 2 = b % 2 := by
    rcases Nat.mod_two_eq_zero_or_one a with h1 | h1 <;> rcases Nat.mod_two_eq_zero_or_one b with h2 | h2
    · rw [h1, h2]
    · exfalso
      rw [h1, h2, Nat.zero_mul, Nat.one_mul, sfx_len.1] at e2
      rcases Nat.mod_two_eq_zero_or_one st with h3 | h3
      · rw [h3, sfx_len.2.1] at e2; cases e2
      · rw [h3, sfx_len.2.2] at e2; cases e2
    · exfalso
      rw [h1, h2, Nat.zero_mul, Nat.one_mul, sfx_len.1] at e2
      rcases Nat.mod_two_eq_zero_or_one st with h3 | h3
      · rw [h3, sfx_len.2.1] at e2; cases e2
      · rw [h3, sfx_len.2.2] at e2; cases e2
    · rw [h1, h2]
  omega
structure Crew (most : Nat) (rs : List Str) : Prop where
  nd : rs.Nodup
  pos : 0 < rs.length
  le : rs.length ≤ most
  nam : ∀ s ∈ rs, ∃ st sp a, st < 26 ∧ Steps sp ∧ s = nm st sp a
theorem crew_of {most size st sp : Nat} {rs : List Str} (hm : most ≤ 52) (h0 : 0 < size) (h1 : size ≤ most) (hst : st < 26) (hs : Steps sp) (p : rs.Perm ((List.range size).map (nm st sp))) : Crew most rs := by
  refine ⟨?_, by rw [p.length_eq]; simpa using h0, by rw [p.length_eq]; simpa using h1, fun s hs' => ?_⟩
  · rw [p.nodup_iff]
    rw [List.Nodup, List.pairwise_map]
    refine List.Pairwise.imp_of_mem ?_ List.nodup_range
    intro a b ha hb hab e
    exact hab (nm_inj hs (by have := List.mem_range.mp ha; omega) (by have := List.mem_range.mp hb; omega) e)
  · obtain ⟨a, _, rfl⟩ := List.mem_map.mp (p.mem_iff.mp hs')
    exact ⟨st, sp, a, hst, hs, rfl⟩
def unS : D → Str
  | .str s => s
  | _ => ""
theorem perm_strs {rs : List D} {l : List Str} (p : rs.Perm (l.map .str)) : ∃ rs' : List Str, rs = rs'.map .str ∧ rs'.Perm l := by
  refine ⟨rs.map unS, ?_, ?_⟩
  · rw [List.map_map]
    have : ∀ d ∈ rs, (PyData.str ∘ unS) d = d := fun d hd => by
      obtain ⟨s, _, rfl⟩ := List.mem_map.mp (p.mem_iff.mp hd)
      rfl
    rw [List.map_congr_left this]
    simp
  · have := p.map unS
    rw [List.map_map] at this
    simpa [Function.comp_def, unS] using this
abbrev letters : Str := "abcdefghijklmnopqrstuvwxyz"
theorem letters_at {i : Nat} (h : i < 26) : L2.atI letters.cps.toList (i : Int) = some (97 + i) := by
  have : ∀ i : Fin 26, L2.atI letters.cps.toList ((i : Nat) : Int) = some (97 + i.1) := by decide +kernel
  exact this ⟨i, h⟩
theorem letters_len : letters.length ≤ sizeLine := by decide +kernel
theorem rng_get {n j : Nat} {d : D} (e : (rngD 0 n)[j]? = some d) : j < n ∧ d = .int (j : Int) := by
  obtain ⟨h1, h2⟩ := rngD_get e
  exact ⟨h1, by rw [h2]; simp⟩
theorem rng_len (n : Nat) : (rngD 0 n).length = n := by simp [rngD]
theorem sfx_at (j st : Nat) : L2.atI [PyData.str "", .str "a", .str "zz"] ((j : Int) % 2 * (1 + (st : Int) % 2)) = some (.str (sfx (j % 2 * (1 + st % 2)))) := by
  have e : (j : Int) % 2 * (1 + (st : Int) % 2) = ((j % 2 * (1 + st % 2) : Nat) : Int) := by push_cast; rfl
  have h : j % 2 * (1 + st % 2) = 0 ∨ j % 2 * (1 + st % 2) = 1 ∨ j % 2 * (1 + st % 2) = 2 := by
    rcases Nat.mod_two_eq_zero_or_one j with z | z <;> rw [z] <;> omega
  rw [e]
  rcases h with h | h | h <;> rw [h] <;> rfl
theorem sfx_le (k : Nat) : (sfx k).length ≤ 2 := by
  match k with
  | 0 => decide +kernel
  | 1 => decide +kernel
  | _ + 2 => show (sfx 2).length ≤ 2; decide +kernel
def crewBody : SM := sSeq (sAsg (f2 idxW (fVar 4) (f2 modW (f2 (addW false) (fVar 6) (f2 (mulW false) (fVar 7) (f2 divW (fVar 2) (fC (.int 2))))) (fC (.int 26)))) (gN 8))
    (sExpr (fM isL appendW (fVar 5) (fCons (f2 (addW false) (fVar 8) (f2 idxW (fA (lstW false) (fCons (fC (.str "")) (fCons (fC (.str "a")) (fCons (fC (.str "zz")) (fNil))))) (f2 (mulW false) (f2 modW (fVar 2) (fC (.int 2))) (f2 (addW false) (fC (.int 1)) (f2 modW (fVar 6) (fC (.int 2))))))) (fNil))))
theorem crew_turn {g : Hh} {b p : Nat} {st sp j sz most : Int} {l : List D} {w : Option W} {L sx : Str} {cc : Nat} (ll : L.length ≤ sizeLine) (la : L2.atI L.cps.toList ((st + sp * (j / 2)) % 26) = some cc) (hx : L2.atI [PyData.str "", .str "a", .str "zz"] (j % 2 * (1 + st % 2)) = some (.str sx))
    (hg : g[p]? = some (some (.lst l))) (hl : l.length < sizeLine) (s0 : 0 ≤ sp) (s1 : sp < 26) (hs : sx.length ≤ 2) :
    crewBody [some (.ref b), some (.dat (.int most)), some (.dat (.int j)), some (.dat (.int sz)), some (.dat (.str L)), some (.ref p), some (.dat (.int st)), some (.dat (.int sp)), w] g =
      some (.nx [some (.ref b), some (.dat (.int most)), some (.dat (.int j)), some (.dat (.int sz)), some (.dat (.str L)), some (.ref p), some (.dat (.int st)), some (.dat (.int sp)), some (.dat (.str ⟨#[cc]⟩))], g.set p (some (.lst (l ++ [.str (⟨#[cc]⟩ ++ sx)])))) := by
  have c0 : -18446744073709551616 < sp := by omega
  have c1 : sp < 18446744073709551616 := by omega
  have c3 : -18446744073709551616 < j % 2 := by omega
  have c4 : j % 2 < 18446744073709551616 := by omega
  have c5 : (Str.length ⟨#[cc]⟩) + sx.length ≤ sizeLine := by
    have hz : sizeLine = 16777216 := by rfl
    show 1 + _ ≤ _
    omega
  have c7 : 3 ≤ sizeLine := by decide
  unfold crewBody
  walk_at "dl"
theorem crew_turn_none {g : Hh} {b p st sp j : Nat} {sz most : Int} {l : List D} {w : Option W} (hg : g[p]? = some (some (.lst l))) (hl : l.length < sizeLine) (s1 : sp < 26) :
    ∃ w', crewBody [some (.ref b), some (.dat (.int most)), some (.dat (.int j)), some (.dat (.int sz)), some (.dat (.str letters)), some (.ref p), some (.dat (.int st)), some (.dat (.int sp)), w] g =
      some (.nx [some (.ref b), some (.dat (.int most)), some (.dat (.int j)), some (.dat (.int sz)), some (.dat (.str letters)), some (.ref p), some (.dat (.int st)), some (.dat (.int sp)), w'], g.set p (some (.lst (l ++ [.str (nm st sp j)])))) ∧ ∀ n, isR n w' = false := by
  have hi : ((st : Int) + sp * ((j : Int) / 2)) % 26 = (((st + sp * (j / 2)) % 26 : Nat) : Int) := by push_cast; rfl
  exact ⟨_, crew_turn letters_len (by rw [hi]; exact letters_at (Nat.mod_lt _ (by omega))) (sfx_at j st) hg hl (by omega) (by omega) (sfx_le _), fun _ => rfl⟩
theorem crew_run {h g1 g2 g3 g5 g6 : Hh} {b : Nat} {most r1 r2 r3 sp : Int} {L : Str} (hL : L = letters) {pool rs : List D} {v w : Option W} (e1 : m__law_take [.ref b, .dat (.int most)] h = some (.dat (.int r1), g1)) (e2 : m__law_take [.ref b, .dat (.int 26)] (g1 ++ [some (.lst [])]) = some (.dat (.int r2), g2))
    (e3 : m__law_take [.ref b, .dat (.int 3)] g2 = some (.dat (.int r3), g3)) (hsi : L2.atI [PyData.int 1, .int 3, .int 25] r3 = some (.int sp)) (b0 : -1000000000 ≤ 1 + r1) (b1 : 1 + r1 ≤ 1000000000)
    (key : forL (gN 2) crewBody (rngD 0 (1 + r1).toNat) [some (.ref b), some (.dat (.int most)), none, some (.dat (.int (1 + r1))), some (.dat (.str L)), some (.ref g1.length), some (.dat (.int r2)), some (.dat (.int sp)), none] g3 =
      some (.nx [some (.ref b), some (.dat (.int most)), v, some (.dat (.int (1 + r1))), some (.dat (.str L)), some (.ref g1.length), some (.dat (.int r2)), some (.dat (.int sp)), w], g5))
    (hv : ∀ n, isR n v = false) (hw : ∀ n, isR n w = false) (hp : g5[g1.length]? = some (some (.lst pool))) (hbn : (b = g1.length) = False)
    (e6 : m__law_strewn [.ref b, .dat (.list pool)] (g5.set g1.length none) = some (.dat (.list rs), g6)) :
    m__law_crew [.ref b, .dat (.int most)] h = leave false h (.dat (.list rs)) g6 := by
  have c7 : 3 ≤ sizeLine := by decide
  have c8 : 0 ≤ sizeLine := Nat.zero_le _
  have hf : frz 5 [some (.ref b), some (.dat (.int most)), v, some (.dat (.int (1 + r1))), some (.dat (.str L)), some (.ref g1.length), some (.dat (.int r2)), some (.dat (.int sp)), w] g5 =
      some ([some (.ref b), some (.dat (.int most)), v, some (.dat (.int (1 + r1))), some (.dat (.str L)), some (.dat (.list pool)), some (.dat (.int r2)), some (.dat (.int sp)), w], g5.set g1.length none) := by
    unfold frz
    simp only [List.getElem?_cons_zero, List.getElem?_cons_succ, hp, List.set_cons_zero, List.set_cons_succ, List.any_cons, List.any_nil, hv, hw, isR_ref, isR_dat, isR_none, hbn, decide_false, Bool.or_false, isTab, Bool.false_eq_true, if_false, moD]
  unfold crewBody at key
  subst hL
  unfold m__law_crew
  clear hv hw hp hbn
  walk_at "dl"
theorem leave_two {b c c' : Nat} {h g : Hh} {d : D} {o : Option MO} (x : BoxAt h b c) (y : BoxAt g b c') (on : Only b h g) : leave false h (.dat d) (g ++ [o]) = some (.dat d, g) := by
  have e : (g ++ [o]).take h.length = g := by rw [← on.len, List.take_append_of_le_length (Nat.le_refl _), List.take_length]
  rw [leave_dat (by rw [e]; exact live_only x y on), e]
theorem crew_ok {h : Hh} {b c most : Nat} (hb : BoxAt h b c) (hc : c < 100000000) (h0 : 0 < most) (h1 : most ≤ 52) :
    ∃ rs h', m__law_crew [.ref b, .dat (.int most)] h = some (.dat (.list (rs.map .str)), h') ∧ Crew most rs ∧ BoxAt h' b (c + 3 + most) ∧ Only b h h' := by
  have hz : sizeLine = 16777216 := by rfl
  obtain ⟨r1, g1, e1, p1, q1, b1, o1⟩ := take_ok (n := (most : Int)) hb (by omega) (by omega) (by omega)
  obtain ⟨r2, g2, e2, p2, q2, b2, o2⟩ := take_ok (n := 26) (box_app (l := [some (.lst [])]) b1) (by omega) (by omega) (by omega)
  obtain ⟨r3, g3, e3, p3, q3, b3, o3⟩ := take_ok (n := 3) b2 (by omega) (by omega) (by omega)
  have lb := hb.lt
  have l1 := o1.len
  obtain ⟨o4, g4, e4, l4⟩ := only_app b1.lt (o2.trans o3)
  have eg : g3.take g1.length = g4 := by rw [e4, ← l4, List.take_append_of_le_length (Nat.le_refl _), List.take_length]
  rw [eg] at o4
  have b4 : BoxAt g4 b (c + 3) := by
    have := box_take b3 (n := g1.length) (by omega)
    rw [eg] at this
    exact this
  obtain ⟨st, rfl⟩ : ∃ st : Nat, r2 = st := ⟨r2.toNat, by omega⟩
  obtain ⟨sz, rfl⟩ : ∃ sz : Nat, r1 = sz := ⟨r1.toNat, by omega⟩
  obtain ⟨sp, hsp, hsi⟩ : ∃ sp : Nat, Steps sp ∧ L2.atI [PyData.int 1, .int 3, .int 25] r3 = some (.int (sp : Int)) := by
    have : r3 = 0 ∨ r3 = 1 ∨ r3 = 2 := by omega
    rcases this with rfl | rfl | rfl
    · exact ⟨1, .inl rfl, rfl⟩
    · exact ⟨3, .inr (.inl rfl), rfl⟩
    · exact ⟨25, .inr (.inr rfl), rfl⟩
  have sp26 : sp < 26 := by rcases hsp with rfl | rfl | rfl <;> omega
  have key := forL_inv (k := gN 2) (body := crewBody)
    (fun n ρ g => ∃ v w : Option W, (∀ n, isR n v = false) ∧ (∀ n, isR n w = false) ∧ ρ = [some (.ref b), some (.dat (.int most)), v, some (.dat (.int (1 + sz))), some (.dat (.str letters)), some (.ref g1.length), some (.dat (.int st)), some (.dat (.int sp)), w] ∧ g = g4 ++ [some (.lst ((List.range n).map fun a => .str (nm st sp a)))])
    (ds := rngD 0 (1 + (sz : Int)).toNat) (n := 0)
    (ρ := [some (.ref b), some (.dat (.int most)), none, some (.dat (.int (1 + sz))), some (.dat (.str letters)), some (.ref g1.length), some (.dat (.int st)), some (.dat (.int sp)), none]) (h := g3)
    ⟨none, none, fun _ => rfl, fun _ => rfl, rfl, e4⟩ (by
      intro j d ej ρ g hi
      obtain ⟨v, w, hv, hw, rfl, rfl⟩ := hi
      obtain ⟨hj, rfl⟩ := rng_get ej
      rw [Nat.zero_add]
      have hg : (g4 ++ [some (MO.lst ((List.range j).map fun a => PyData.str (nm st sp a)))])[g1.length]? = some (some (.lst ((List.range j).map fun a => .str (nm st sp a)))) := by rw [List.getElem?_append_right (by omega), l4]; simp
      have hs : (g4 ++ [some (MO.lst ((List.range j).map fun a => PyData.str (nm st sp a)))]).set g1.length (some (.lst ((List.range j).map (fun a => PyData.str (nm st sp a)) ++ [.str (nm st sp j)]))) = g4 ++ [some (.lst ((List.range (j + 1)).map fun a => .str (nm st sp a)))] := by
        rw [List.set_append_right _ _ (by omega), show g1.length - g4.length = 0 by omega, List.range_succ, List.map_append]; rfl
      obtain ⟨w', ew⟩ := crew_turn_none (b := b) (st := st) (j := j) (sz := 1 + (sz : Int)) (most := most) (w := w) hg (by simp; omega) sp26
      refine ⟨_, _, _, rfl, ew.1, some (.dat (.int j)), w', fun _ => rfl, ew.2, rfl, hs⟩)
  obtain ⟨ρ', g5, ek, v, w, hv, hw, rfl, rfl⟩ := key
  have hn : 0 + (rngD 0 (1 + (sz : Int)).toNat).length = 1 + sz := by rw [rng_len]; omega
  rw [hn] at ek
  have hgp : (g4 ++ [some (MO.lst ((List.range (1 + sz)).map fun a => PyData.str (nm st sp a)))])[g1.length]? = some (some (.lst ((List.range (1 + sz)).map fun a => .str (nm st sp a)))) := by rw [List.getElem?_append_right (by omega), l4]; simp
  have hgs : (g4 ++ [some (MO.lst ((List.range (1 + sz)).map fun a => PyData.str (nm st sp a)))]).set g1.length none = g4 ++ [none] := by
    rw [List.set_append_right _ _ (by omega), show g1.length - g4.length = 0 by omega]; rfl
  obtain ⟨rs, g6, e6, pm, b6, o6⟩ := strewn_ok (x := .list ((List.range (1 + sz)).map fun a => PyData.str (nm st sp a))) (.inl rfl) (box_app (l := [none]) b4) (by simp; omega) (by simp; omega)
  obtain ⟨o7, g7, e7, l7⟩ := only_app b4.lt o6
  subst e7
  have e8 : (g7 ++ [none]).take g4.length = g7 := by rw [← l7, List.take_append_of_le_length (Nat.le_refl _), List.take_length]
  rw [e8] at o7
  have b7 := box_take b6 (n := g4.length) b4.lt
  rw [e8] at b7
  obtain ⟨ss, rfl, ps⟩ := perm_strs (rs := rs) (l := (List.range (1 + sz)).map (nm st sp)) (by rw [List.map_map]; exact pm)
  have on := o1.trans (o4.trans o7)
  refine ⟨ss, g7, ?_, crew_of h1 (by omega) (by omega) (by omega) hsp ps, b7.mono (by simp; omega), on⟩
  rw [crew_run rfl e1 e2 e3 hsi (by omega) (by omega) ek hv hw hgp (eq_false (by omega)) (by rw [hgs]; exact e6)]
  exact leave_two hb b7 on
end DL
set_option maxRecDepth 100000
set_option maxHeartbeats 400000
namespace DL
open PySem L2
variable [HW]
local macro_rules | `(tactic| walk_at "dl") => `(tactic| simp (config := { dsimp := false }) only [↓fnM_e, ↓sSeq_e, seqK_nx, seqK_rt, seqK_bk, seqK_ct, retK_rt, retK_nx, ↓sFrz_e, frK_some, ↓sAsg, ↓sRet, ↓sRetN, ↓sIf, ↓sExpr, ↓sSkip, ↓sNever, ↓sPar, ↓sFor, ↓sSub, ↓fVar, ↓fC, ↓fNil, ↓fCons, ↓fA, ↓f1, ↓f2, ↓fB, ↓fIf, ↓fNeg, ↓fNot, ↓fAnd, ↓fOr, ↓bNot, ↓bAnd, ↓bOr, ↓bYes, ↓obnd_x, ob_some, ↓sbnd_x, sb_some, ↓ite_x, iteK_t, iteK_f, gN, gT, gC, gE, ↓rng1I, ↓rng2I, ↓seqI, ↓enumA, ↓zipI, ↓strI, ↓fLc, ↓fDc, ↓fM, ↓fSl, ↓oNone, ↓oSome, ↓fRev, wipeE, ↓kwM, permM, permL, List.foldr, List.length_cons, List.length_nil, List.map_cons, List.map_nil, List.cons_append, List.nil_append, List.replicate, List.replicate_succ, List.replicate_zero, List.getElem?_cons_zero, List.getElem?_cons_succ, List.set_cons_zero, List.set_cons_succ, if_true, if_false, reduceIte, Nat.reduceAdd, Nat.reduceSub, Nat.reduceEqDiff, Nat.reduceLT, Nat.reduceLeDiff, Int.reduceLT, Int.reduceLE, Int.reduceNeg, Int.reduceMul, Int.reduceAdd, Int.reduceSub, Int.reduceToNat, Int.reducePow, Int.reduceEq, ok, bok, deref, mkL, lstW, tupW, dats, Option.map_some, appendW, insertW, setL, isL, listW, tupleW, lenW, absW, intC, maxW, minW, idxW, addW, subW_e, modW_e, divW_e, powW_e, mulW, intW, lt_e, gt_e, le_e, ge_e, ltW, allW_e, anyW_e, sumW_e, lW, setW, lstAt, cutW, backW, isW, isiW, iLT_none, iLT_bool, iLT_int, iLT_str, iLT_list, iLT_tup, iL_none, iL_bool, iL_int, iL_str, iL_list, iL_tup, iT_none, iT_bool, iT_int, iT_str, iT_list, iT_tup, iS_none, iS_bool, iS_int, iS_str, iS_list, iS_tup, iI_none, iI_bool, iI_int, iI_str, iI_list, iI_tup, iB_none, iB_bool, iB_int, iB_str, iB_list, iB_tup, Bool.false_eq_true, reduceCtorEq, Bool.not_true, Bool.not_false, decide_true, decide_false, List.zip_cons_cons, List.zip_nil_left, List.foldl_cons, List.foldl_nil, and_self, and_true, true_and, Bool.and_true, Bool.true_and, Bool.or_true, Bool.true_or, *])
theorem zipD_self : ∀ ds : List D, zipD ds ds = ds.map fun d => .tuple [d, d]
  | [] => rfl
  | d :: ds => by rw [zipD, zipD_self ds]; rfl
theorem bools_true : ∀ n : Nat, bools (List.replicate n (.bool true)) = some (List.replicate n true)
  | 0 => rfl
  | n + 1 => by rw [List.replicate_succ, bools, bools_true n]; rfl
theorem all_true (n : Nat) : (List.replicate n true).all id = true := by induction n with
  | zero => rfl
  | succ n ih => rw [List.replicate_succ, List.all_cons, ih]; rfl
theorem eqS_bool (b : Bool) : eqS (.bool b) (.bool b) = some true := by simp [eqS]
theorem eqS_self_int (b : Int) : eqS (.int b) (.int b) = some true := by simp [eqS]
theorem eqW_same {neg : Bool} {d : D} {h : Hh} (e : eqS d d = some true) : eqW neg (.dat d) (.dat d) h = bok (!neg) h := by
  unfold eqW
  simp only [deref, e]
  cases neg <;> rfl
theorem same_seq {n : Nat} {ds : List D} {h : Hh} (ih : ∀ d ∈ ds, m__law_same n [.dat d, .dat d] h = some (.dat (.bool true), h)) (v1 v2 : Option W) (hl : ds.length ≤ sizeLine) :
    lcL (gT 2 (gC (gN 2) (gC (gN 3) (gE)))) (bYes) (fA (m__law_same n) (fCons (fVar 2) (fCons (fVar 3) (fNil)))) [v1, v2, none, none] (zipD ds ds) h = some (List.replicate ds.length (.bool true), h) := by
  rw [zipD_self]
  rw [lcL_all (fun _ => .bool true) (ds := ds.map fun d => .tuple [d, d]) (fun d' hd' => ?_)]
  · rw [List.map_map]
    congr 2
    apply List.eq_replicate_iff.mpr
    exact ⟨by simp, fun b hb => by obtain ⟨d, hd, rfl⟩ := List.mem_map.mp hb; rfl⟩
  · obtain ⟨d, hd, rfl⟩ := List.mem_map.mp hd'
    have e := ih d hd
    refine ⟨[v1, v2, some (.dat d), some (.dat d)], ?_, rfl, ?_⟩
    · walk_at "dl"
    · walk_at "dl"
theorem forL_end {k : TM} {body : SM} (I : Nat → Env → Hh → Prop) {ds : List D} {ρ : Env} {h : Hh} (i : I 0 ρ h) (H : ∀ (j : Nat) (d : D), ds[j]? = some d → ∀ ρ h, I j ρ h → ∃ ρ1 ρ2 h2, k (.dat d) ρ h = some ρ1 ∧ body ρ1 h = some (.nx ρ2, h2) ∧ I (j + 1) ρ2 h2) :
    ∃ ρ' h', forL k body ds ρ h = some (.nx ρ', h') ∧ I ds.length ρ' h' := by
  have := forL_inv (k := k) (body := body) I (ds := ds) (n := 0) i fun j d e ρ h q => by
    have := H j d e ρ h (by rw [Nat.zero_add] at q; exact q)
    rw [Nat.zero_add]; exact this
  rw [Nat.zero_add] at this
  exact this
theorem leave_ref {h : Hh} {ds : List D} : leave true h (.ref h.length) (h ++ [some (.lst ds)]) = some (.ref h.length, h ++ [some (.lst ds)]) := by
  have e : (h ++ [some (MO.lst ds)]).take h.length = h := by rw [List.take_append_of_le_length (Nat.le_refl _), List.take_length]
  have e2 : (h ++ [some (MO.lst ds)])[h.length]? = some (some (.lst ds)) := by rw [List.getElem?_append_right (Nat.le_refl _)]; simp
  unfold leave
  rw [e, if_pos rfl]
  simp only [Nat.lt_irrefl, if_false, e2, if_true]
theorem box_run {ns : List Int} {k cell a : Int} {z : Bool} {h : Hh} (hc : (decide (k < (ns.length : Int)) = true ∧ L2.atI ns k = some cell) ∨ (decide (k < (ns.length : Int)) = false ∧ cell = 0)) (ha : (if cell < 0 then -cell else cell) = a) (hz : decide (1000000000000000000 ≤ a) = z) :
    m__law_box [.scr ns, .dat (.int k)] h = some (.ref h.length, h ++ [some (.lst [.int (a * (if z = true then 1 else 0)), .int (cell % 2147483629 + 7919 * k + 11), .int 0])]) := by
  have c7 : 3 ≤ sizeLine := by decide
  have hna : Int.natAbs 10 < 18446744073709551616 := by decide
  have lv := leave_ref (h := h) (ds := [.int (a * (if z = true then 1 else 0)), .int (cell % 2147483629 + 7919 * k + 11), .int 0])
  unfold m__law_box
  rcases hc with ⟨h1, h2⟩ | ⟨h1, rfl⟩
  · cases z with
    | true => walk_at "dl"; exact leave_ref
    | false => walk_at "dl"; exact leave_ref
  · have e0 : a = 0 := by rw [← ha]; rfl
    subst e0
    have e1 : z = false := by rw [← hz]; rfl
    subst e1
    clear hz ha
    walk_at "dl"
    exact leave_ref
theorem box_new {ns : List Int} {k : Int} {h : Hh} (hk : 0 ≤ k) (hk2 : k < 100) :
    ∃ d s : Int, m__law_box [.scr ns, .dat (.int k)] h = some (.ref h.length, h ++ [some (.lst [.int d, .int s, .int 0])]) ∧ 0 ≤ d ∧ 0 ≤ s ∧ s < 1099511627776 := by
  obtain ⟨cell, hc⟩ : ∃ cell : Int, (decide (k < (ns.length : Int)) = true ∧ L2.atI ns k = some cell) ∨ (decide (k < (ns.length : Int)) = false ∧ cell = 0) := by
    by_cases h1 : k < (ns.length : Int)
    · have h2 : k.toNat < ns.length := by omega
      refine ⟨ns[k.toNat], .inl ⟨by simpa using h1, ?_⟩⟩
      have := atI_nat (xs := ns) (j := k.toNat) (List.getElem?_eq_getElem h2)
      rwa [show ((k.toNat : Nat) : Int) = k by omega] at this
    · exact ⟨0, .inr ⟨by simpa using h1, rfl⟩⟩
  refine ⟨_, _, box_run hc rfl rfl, ?_, by omega, by omega⟩
  split <;> split <;> omega
noncomputable def lawM (T : Int) (right : FM) : FM := fnM false 1 4 (sSeq (sFor (rng1I (fCons (fA maxW (fCons (fC (.int 1)) (fCons (fA minW (fCons (fC (.int 3)) (fCons (fA lenW (fCons (fVar 0) (fNil))) (fNil)))) (fNil)))) (fNil))) (gN 1)
    (sSeq (sAsg (fA (m__law_box) (fCons (fVar 0) (fCons (fVar 1) (fNil)))) (gN 2))
    (sIf (bNot (fB (fA allW (fCons (fLc false (rng1I (fCons (fC (.int T)) (fNil))) (gN 3) (bYes) (fA right (fCons (fVar 2) (fNil))) [3]) (fNil))))) (sRet (fC (.bool false))) (sSkip))))
    (sRet (fC (.bool true))))
theorem bools_all : ∀ {rs : List D}, (∀ r ∈ rs, r = .bool true) → rs = List.replicate rs.length (.bool true)
  | [], _ => rfl
  | r :: rs, h => by
    rw [List.length_cons, List.replicate_succ, ← bools_all fun x hx => h x (List.mem_cons_of_mem _ hx), ← h r List.mem_cons_self]
theorem law_turn {T : Int} {t : Nat} (hT : T.toNat = t) (T0 : -1000000000 ≤ T) (T1 : T ≤ 1000000000) (T2 : t ≤ sizeLine) {right : FM} {cost : Nat} (hr : ∀ (h : Hh) (b c : Nat), BoxAt h b c → c ≤ t * cost → ∃ h', right [.ref b] h = some (.dat (.bool true), h') ∧ BoxAt h' b (c + cost) ∧ Only b h h') {ns : List Int} {k : Int} (k0 : 0 ≤ k) (k1 : k < 100) (v2 v3 : Option W) (h : Hh) :
    ∃ ρ' h', (sSeq (sAsg (fA (m__law_box) (fCons (fVar 0) (fCons (fVar 1) (fNil)))) (gN 2))
    (sIf (bNot (fB (fA allW (fCons (fLc false (rng1I (fCons (fC (.int T)) (fNil))) (gN 3) (bYes) (fA right (fCons (fVar 2) (fNil))) [3]) (fNil))))) (sRet (fC (.bool false))) (sSkip))) [some (.scr ns), some (.dat (.int k)), v2, v3] h = some (.nx ρ', h') ∧ ∃ w2, ρ' = [some (.scr ns), some (.dat (.int k)), w2, v3] := by
  obtain ⟨d, s, e, hd, hs, hs2⟩ := box_new (ns := ns) (h := h) k0 k1
  have hb : BoxAt (h ++ [some (.lst [.int d, .int s, .int 0])]) h.length 0 := ⟨d, s, 0, by simp, hd, hs, hs2, by omega, by omega⟩
  obtain ⟨rs, h', e2, hl, hall, _⟩ := lcL_inv (k := gN 3) (f := fA right (fCons (fVar 2) (fNil))) (ρ := [some (.scr ns), some (.dat (.int k)), some (.ref h.length), none])
    (fun n g => BoxAt g h.length (n * cost)) (fun _ d => d = .bool true) (ds := rngD 0 T.toNat) (n := 0) (h := h ++ [some (.lst [.int d, .int s, .int 0])]) (by rw [Nat.zero_mul]; exact hb) (by
      intro j d' ej g hi
      rw [Nat.zero_add] at hi ⊢
      have hj := (rng_get ej).1
      obtain ⟨g', e3, b3, _⟩ := hr g h.length _ hi (Nat.mul_le_mul_right _ (by omega))
      refine ⟨[some (.scr ns), some (.dat (.int k)), some (.ref h.length), some (.dat d')], .bool true, g', rfl, ?_, rfl, by rw [Nat.succ_mul]; exact b3⟩
      walk_at "dl")
  have er : rs = List.replicate rs.length (.bool true) := bools_all fun r hr => by
    obtain ⟨j, hj, rfl⟩ := List.getElem_of_mem hr
    exact hall j _ (List.getElem?_eq_getElem hj)
  have hl' : rs.length = t := by rw [hl, rng_len, hT]
  rw [hl'] at er
  subst er
  have e4 := bools_true t
  have e5 := all_true t
  have e6 : (List.replicate t (PyData.bool true)).length ≤ sizeLine := by rw [List.length_replicate]; exact T2
  refine ⟨[some (.scr ns), some (.dat (.int k)), some (.ref h.length), v3], h', ?_, _, rfl⟩
  clear hall hl hl' hb hr
  rw [hT] at e2
  walk_at "dl"
theorem law_ok {T : Int} {t : Nat} (hT : T.toNat = t) (T0 : -1000000000 ≤ T) (T1 : T ≤ 1000000000) (T2 : t ≤ sizeLine) {right : FM} {cost : Nat} (hr : ∀ (h : Hh) (b c : Nat), BoxAt h b c → c ≤ t * cost → ∃ h', right [.ref b] h = some (.dat (.bool true), h') ∧ BoxAt h' b (c + cost) ∧ Only b h h') (ns : List Int) (hn : ns.length ≤ 63) :
    ∃ h', lawM T right [.scr ns] [] = some (.dat (.bool true), h') := by
  obtain ⟨m, hm, m0, m1⟩ : ∃ m : Int, (if (if (ns.length : Int) < 3 then (ns.length : Int) else 3) > 1 then (if (ns.length : Int) < 3 then (ns.length : Int) else 3) else 1) = m ∧ 0 ≤ m ∧ m ≤ 3 := ⟨_, rfl, by split <;> split <;> omega, by split <;> split <;> omega⟩
  obtain ⟨ρ', h', e, w1, w2, w3, rfl⟩ := forL_end (k := gN 1) (body := (sSeq (sAsg (fA (m__law_box) (fCons (fVar 0) (fCons (fVar 1) (fNil)))) (gN 2))
    (sIf (bNot (fB (fA allW (fCons (fLc false (rng1I (fCons (fC (.int T)) (fNil))) (gN 3) (bYes) (fA right (fCons (fVar 2) (fNil))) [3]) (fNil))))) (sRet (fC (.bool false))) (sSkip)))) (fun _ ρ _ => ∃ w1 w2 w3, ρ = [some (.scr ns), w1, w2, w3]) (ds := rngD 0 m.toNat) (ρ := [some (.scr ns), none, none, none]) (h := []) ⟨none, none, none, rfl⟩ (by
      intro j d ej ρ h hi
      obtain ⟨w1, w2, w3, rfl⟩ := hi
      obtain ⟨hj, rfl⟩ := rng_get ej
      obtain ⟨ρ', h', e, w2', rfl⟩ := law_turn hT T0 T1 T2 hr (ns := ns) (k := j) (by omega) (by omega) w2 w3 h
      exact ⟨_, _, h', rfl, e, _, _, _, rfl⟩)
  refine ⟨[], ?_⟩
  have b0 : -1000000000 ≤ m := by omega
  have b1 : m ≤ 1000000000 := by omega
  have lv : leave false [] (.dat (.bool true)) h' = some (.dat (.bool true), []) := rfl
  unfold lawM
  clear hr m0 m1 T0 T1 T2
  walk_at "dl"
end DL
set_option maxRecDepth 100000
set_option maxHeartbeats 400000
namespace DL
open PySem L2
variable [HW]
def TxtOk (s : Str) : Prop := s.length ≤ 100 ∧ ∀ c ∈ s.cps.toList, c < 128
theorem TxtOk.ok {s : Str} (h : TxtOk s) : PyData.strOk s = true := by
  unfold PyData.strOk
  rw [Array.all_eq_true']
  intro c hc
  have := h.2 c (by simpa using hc)
  simp; omega
abbrev Txts (l : List Str) : Prop := ∀ s ∈ l, TxtOk s
theorem Txts.perm {l m : List Str} (h : Txts l) (p : m.Perm l) : Txts m := fun s hs => h s (p.mem_iff.mp hs)
abbrev IsSeq (x : D) (ds : List D) : Prop := x = .list ds ∨ x = .tuple ds
end DL
set_option maxRecDepth 100000
set_option maxHeartbeats 400000
namespace DL
open PySem L2
variable [HW]
end DL
set_option maxRecDepth 100000
set_option maxHeartbeats 400000
namespace DL
open PySem L2
variable [HW]
mutual
/-- texts, lists and tuples of such -/
def txD : D → Bool
  | .str s => decide (s.length ≤ 100) && s.cps.toList.all (· < 128)
  | .list ds => txDs ds
  | .tuple ds => txDs ds
  | .none => true
  | .bool _ => true
  | _ => false
def txDs : List D → Bool
  | [] => true
  | d :: ds => txD d && txDs ds
end
mutual
def costD : D → Nat
  | .str s => 10 * s.length + 2
  | .list ds => costDs ds + 3
  | .tuple ds => costDs ds + 3
  | _ => 5
def costDs : List D → Nat
  | [] => 0
  | d :: ds => costD d + 2 + costDs ds
end
theorem tx_str {s : Str} (h : TxtOk s) : txD (.str s) = true := by
  rw [txD]
  simp only [Bool.and_eq_true, decide_eq_true_eq, List.all_eq_true]
  exact ⟨h.1, fun c hc => h.2 c hc⟩
theorem str_tx {s : Str} (h : txD (.str s) = true) : TxtOk s := by
  rw [txD] at h
  simp only [Bool.and_eq_true, decide_eq_true_eq, List.all_eq_true] at h
  exact ⟨h.1, fun c hc => h.2 c hc⟩
mutual
theorem tx_lay : ∀ {d : D}, txD d = true → d.canLay0 = true ∧ d.showable = true ∧ d.shown.length ≤ costD d
  | .none, _ => by refine ⟨by simp [PyData.canLay0], by simp [PyData.showable], ?_⟩; rw [PyData.shown, costD]; · decide +kernel
                   all_goals simp
  | .bool b, _ => by
    refine ⟨by simp [PyData.canLay0], by simp [PyData.showable], ?_⟩
    rw [PyData.shown, costD]
    · cases b <;> decide +kernel
    all_goals simp
  | .int _, h => by simp [txD] at h
  | .dict _, h => by simp [txD] at h
  | .str s, h => by
    have t := str_tx h
    refine ⟨by rw [PyData.canLay0]; exact t.ok, by simp [PyData.showable], ?_⟩
    rw [PyData.shown, costD]
    exact StrLaws.reprText_len s fun c hc => by have := t.2 c hc; omega
  | .list ds, h => by
    rw [txD] at h
    obtain ⟨h1, h2, h3⟩ := tx_lays h
    refine ⟨by rw [PyData.canLay0]; exact h1, by rw [PyData.showable]; exact h2, ?_⟩
    rw [PyData.shown, costD]
    exact Nat.le_trans (listText_len_le _) (by omega)
  | .tuple ds, h => by
    rw [txD] at h
    obtain ⟨h1, h2, h3⟩ := tx_lays h
    refine ⟨by rw [PyData.canLay0]; exact h1, by rw [PyData.showable]; exact h2, ?_⟩
    rw [PyData.shown, costD]
    exact Nat.le_trans (tupleText_len_le _) (by omega)
theorem tx_lays : ∀ {ds : List D}, txDs ds = true → PyData.canLayAll0 ds = true ∧ PyData.showableAll ds = true ∧ ((PyData.shownAll ds).map (·.length)).sum + 2 * (PyData.shownAll ds).length ≤ costDs ds
  | [], _ => ⟨rfl, rfl, Nat.le_refl _⟩
  | d :: ds, h => by
    rw [txDs, Bool.and_eq_true] at h
    obtain ⟨a1, a2, a3⟩ := tx_lay h.1
    obtain ⟨b1, b2, b3⟩ := tx_lays h.2
    refine ⟨by rw [PyData.canLayAll0, a1, b1]; rfl, by rw [PyData.showableAll, a2, b2]; rfl, ?_⟩
    rw [PyData.shownAll, costDs, List.map_cons, List.sum_cons, List.length_cons]
    omega
end
end DL
set_option maxRecDepth 100000
set_option maxHeartbeats 400000
namespace DL
open PySem L2
variable [HW]
end DL
set_option maxRecDepth 100000
set_option maxHeartbeats 400000
namespace DL
open PySem L2
variable [HW]
def Pre (h0 h : Hh) : Prop := ∀ i : Nat, i < h0.length → h[i]? = h0[i]?
theorem Pre.only {h0 h h' : Hh} {b : Nat} (p : Pre h0 h) (hb : h0.length ≤ b) (o : Only b h h') : Pre h0 h' := fun i hi => (o.off i (by omega)).trans (p i hi)
theorem Pre.take {h0 h : Hh} (p : Pre h0 h) (hl : h0.length ≤ h.length) : h.take h0.length = h0 := by
  apply List.ext_getElem?
  intro i
  by_cases hi : i < h0.length
  · rw [List.getElem?_take_of_lt hi]; exact p i hi
  · rw [List.getElem?_eq_none (by rw [List.length_take]; omega), List.getElem?_eq_none (by omega)]
end DL
set_option maxRecDepth 100000
set_option maxHeartbeats 400000
namespace DL
open PySem L2
variable [HW]
end DL
set_option maxRecDepth 100000
set_option maxHeartbeats 400000
namespace DL
open PySem L2
variable [HW]
def goal (ps : List (Str × Str)) (s : Str) : Str := (ps.lookup s).getD s
structure CallOf (r : List Str) (ps : List (Str × Str)) : Prop where
  perm : (ps.map (·.1)).Perm r
  tgt : ∀ p ∈ ps, p.2 ∈ r
theorem CallOf.of_perm {r r' : List Str} {ps : List (Str × Str)} (c : CallOf r ps) (p : r.Perm r') : CallOf r' ps := ⟨c.perm.trans p, fun q hq => p.mem_iff.mp (c.tgt q hq)⟩
end DL
set_option maxRecDepth 100000
set_option maxHeartbeats 400000
namespace DL
open PySem L2
variable [HW]
local macro_rules | `(tactic| walk_at "dl") => `(tactic| simp (config := { dsimp := false }) only [↓fnM_e, ↓sSeq_e, seqK_nx, seqK_rt, seqK_bk, seqK_ct, retK_rt, retK_nx, ↓sFrz_e, frK_some, ↓sAsg, ↓sRet, ↓sRetN, ↓sIf, ↓sExpr, ↓sSkip, ↓sNever, ↓sPar, ↓sFor, ↓sSub, ↓fVar, ↓fC, ↓fNil, ↓fCons, ↓fA, ↓f1, ↓f2, ↓fB, ↓fIf, ↓fNeg, ↓fNot, ↓fAnd, ↓fOr, ↓bNot, ↓bAnd, ↓bOr, ↓bYes, ↓obnd_x, ob_some, ↓sbnd_x, sb_some, ↓ite_x, iteK_t, iteK_f, gN, gT, gC, gE, ↓rng1I, ↓rng2I, ↓seqI, ↓enumA, ↓zipI, ↓strI, ↓fLc, ↓fDc, ↓fM, ↓fSl, ↓oNone, ↓oSome, ↓fRev, wipeE, ↓kwM, permM, permL, List.foldr, List.length_cons, List.length_nil, List.map_cons, List.map_nil, List.cons_append, List.nil_append, List.replicate, List.replicate_succ, List.replicate_zero, List.getElem?_cons_zero, List.getElem?_cons_succ, List.set_cons_zero, List.set_cons_succ, if_true, if_false, reduceIte, Nat.reduceAdd, Nat.reduceSub, Nat.reduceEqDiff, Nat.reduceLT, Nat.reduceLeDiff, Int.reduceLT, Int.reduceLE, Int.reduceNeg, Int.reduceMul, Int.reduceAdd, Int.reduceSub, Int.reduceToNat, Int.reducePow, Int.reduceEq, ok, bok, deref, mkL, lstW, tupW, dats, Option.map_some, appendW, insertW, setL, isL, listW, tupleW, lenW, absW, intC, maxW, minW, idxW, addW, subW_e, modW_e, divW_e, powW_e, mulW, intW, lt_e, gt_e, le_e, ge_e, ltW, allW_e, anyW_e, sumW_e, lW, setW, lstAt, cutW, backW, isW, isiW, iLT_none, iLT_bool, iLT_int, iLT_str, iLT_list, iLT_tup, iL_none, iL_bool, iL_int, iL_str, iL_list, iL_tup, iT_none, iT_bool, iT_int, iT_str, iT_list, iT_tup, iS_none, iS_bool, iS_int, iS_str, iS_list, iS_tup, iI_none, iI_bool, iI_int, iI_str, iI_list, iI_tup, iB_none, iB_bool, iB_int, iB_str, iB_list, iB_tup, Bool.false_eq_true, reduceCtorEq, Bool.not_true, Bool.not_false, decide_true, decide_false, List.zip_cons_cons, List.zip_nil_left, List.foldl_cons, List.foldl_nil, and_self, and_true, true_and, Bool.and_true, Bool.true_and, Bool.or_true, Bool.true_or, *])
end DL
set_option maxRecDepth 100000
set_option maxHeartbeats 400000
namespace DL
open PySem L2
variable [HW]
theorem eqW_ints {neg : Bool} {i j : Int} {h : Hh} : eqW neg (.dat (.int i)) (.dat (.int j)) h = bok (if neg = true then !decide (i = j) else decide (i = j)) h := by
  rfl
end DL
set_option maxRecDepth 100000
set_option maxHeartbeats 400000
namespace DL
open PySem L2
variable [HW]
theorem app_get {g : Hh} {o : Option MO} {n : Nat} (e : g.length = n) : (g ++ [o])[n]? = some o := by
  rw [List.getElem?_append_right (by omega), e]; simp
theorem app_set {g : Hh} {o o' : Option MO} {n : Nat} (e : g.length = n) : (g ++ [o]).set n o' = g ++ [o'] := by
  rw [List.set_append_right _ _ (by omega), show n - g.length = 0 by omega]; rfl
end DL
set_option maxRecDepth 100000
set_option maxHeartbeats 400000
namespace DL
open PySem L2
variable [HW]
def NameOk (s : Str) : Prop := 1 ≤ s.length ∧ s.length ≤ 6 ∧ ∀ c ∈ s.cps.toList, 97 ≤ c ∧ c ≤ 122
theorem nm_name {st sp a : Nat} : NameOk (nm st sp a) := by
  refine ⟨?_, ?_, fun c hc => ?_⟩
  · unfold nm
    rw [len_app]
    show 1 ≤ 1 + _
    omega
  · unfold nm
    rw [len_app]
    have := sfx_le (a % 2 * (1 + st % 2))
    show 1 + _ ≤ _
    omega
  · rw [nm_cps] at hc
    rcases List.mem_cons.mp hc with rfl | hc
    · omega
    · generalize a % 2 * (1 + st % 2) = k at hc
      match k, hc with
      | 0, hc => rw [sfx_len.1] at hc; cases hc
      | 1, hc => rw [sfx_len.2.1] at hc; simp at hc; omega
      | _ + 2, hc =>
        have hc' : c ∈ (sfx 2).cps.toList := hc
        rw [sfx_len.2.2] at hc'; simp at hc'; omega
theorem Crew.names {most : Nat} {rs : List Str} (h : Crew most rs) : ∀ s ∈ rs, NameOk s := fun s hs => by
  obtain ⟨st, sp, a, _, _, rfl⟩ := h.nam s hs
  exact nm_name
theorem letters_mem {c : Nat} (h0 : 97 ≤ c) (h1 : c ≤ 122) : c ∈ letters.cps.toList := by
  have : ∀ i : Fin 26, 97 + i.1 ∈ letters.cps.toList := by decide +kernel
  have := this ⟨c - 97, by omega⟩
  rwa [show 97 + (c - 97) = c by omega] at this
theorem fChain_e (s1 s2 : W → W → Hh → Option (W × Hh)) {f g k : EM} {ρ : Env} {h h1 h2 h3 h4 : Hh} {a b d : W} (e1 : f ρ h = some (a, h1)) (e2 : g ρ h1 = some (b, h2)) (e3 : s1 a b h2 = some (.dat (.bool true), h3)) (e4 : k ρ h3 = some (d, h4)) : fChain s1 s2 f g k ρ h = s2 b d h4 := by
  unfold fChain
  simp only [e1, e2, e3, e4, obnd]
end DL
set_option maxRecDepth 100000
set_option maxHeartbeats 400000
namespace DL
open PySem L2
variable [HW]
end DL
set_option maxRecDepth 100000
set_option maxHeartbeats 400000
namespace DL
open PySem L2
variable [HW]
end DL
namespace DL
open PySem L2
variable [HW]
end DL
set_option maxRecDepth 100000
set_option maxHeartbeats 400000
namespace DL
open PySem L2
variable [HW]
structure Folk (most : Nat) (rs : List Str) : Prop where
  nd : rs.Nodup
  pos : 0 < rs.length
  le : rs.length ≤ most
  nam : ∀ s ∈ rs, NameOk s
theorem NameOk.txt {s : Str} (h : NameOk s) : TxtOk s := ⟨by have := h.2.1; omega, fun c hc => by have := h.2.2 c hc; omega⟩
theorem Folk.perm {n : Nat} {rs ms : List Str} (h : Folk n rs) (p : ms.Perm rs) : Folk n ms := ⟨p.nodup_iff.mpr h.nd, by rw [p.length_eq]; exact h.pos, by rw [p.length_eq]; exact h.le, fun s hs => h.nam s (p.mem_iff.mp hs)⟩
abbrev Words (r : List Str) (ws : List (List (Str × Str))) : Prop := ∀ ps ∈ ws, CallOf r ps
theorem Words.perm {r r' : List Str} {ws : List (List (Str × Str))} (h : Words r ws) (p : r.Perm r') : Words r' ws := fun ps hp => (h ps hp).of_perm p
end DL
set_option maxRecDepth 100000
set_option maxHeartbeats 400000
namespace DL
open PySem L2
variable [HW]
theorem eqW_strs {neg : Bool} {i j : Str} {h : Hh} : eqW neg (.dat (.str i)) (.dat (.str j)) h = bok (if neg = true then !decide (i = j) else decide (i = j)) h := by
  unfold eqW
  simp only [deref, eqS]
end DL
set_option maxRecDepth 100000
set_option maxHeartbeats 400000
namespace DL
open PySem L2
variable [HW]
abbrev rowT (r : List Str) : D := .tuple (r.map .str)
end DL
set_option maxRecDepth 100000
set_option maxHeartbeats 400000
namespace DL
open PySem L2
variable [HW]
end DL
set_option maxRecDepth 100000
set_option maxHeartbeats 400000
namespace DL
open PySem L2
variable [HW]
end DL
set_option maxRecDepth 100000
set_option maxHeartbeats 400000
namespace DL
open PySem L2
variable [HW]
end DL
set_option maxRecDepth 100000
set_option maxHeartbeats 400000
namespace DL
open PySem L2
variable [HW]
structure OnlyP (b : Nat) (h g : Hh) : Prop where
  len : h.length ≤ g.length
  off : ∀ i : Nat, i < h.length → i ≠ b → g[i]? = h[i]?
theorem Only.p {b : Nat} {h g : Hh} (o : Only b h g) : OnlyP b h g := ⟨Nat.le_of_eq o.len.symm, fun i _ n => o.off i n⟩
theorem OnlyP.only {b : Nat} {h g g' : Hh} (o : OnlyP b h g) (o' : Only b g g') : OnlyP b h g' := ⟨by rw [o'.len]; exact o.len, fun i hi n => (o'.off i n).trans (o.off i hi n)⟩
theorem Folk.mono {n m : Nat} {rs : List Str} (h : Folk n rs) (k : n ≤ m) : Folk m rs := ⟨h.nd, h.pos, Nat.le_trans h.le k, h.nam⟩
end DL
namespace DL
open PySem L2
variable [HW]
end DL
set_option maxRecDepth 100000
set_option maxHeartbeats 400000
namespace DL
open PySem L2
variable [HW]
end DL
set_option maxRecDepth 100000
set_option maxHeartbeats 400000
namespace DL
open PySem L2
variable [HW]
theorem goal_of : ∀ {ps : List (Str × Str)}, (ps.map (·.1)).Nodup → ∀ p ∈ ps, goal ps p.1 = p.2
  | [], _, p, h => by cases h
  | (a, b) :: ps, nd, p, h => by
    rw [List.map_cons, List.nodup_cons] at nd
    unfold goal
    rw [List.lookup_cons]
    rcases List.mem_cons.mp h with rfl | h
    · simp
    · have ne : p.1 ≠ a := fun z => nd.1 (List.mem_map.mpr ⟨p, h, z⟩)
      rw [show (p.1 == a) = false by simpa using ne]
      exact goal_of nd.2 p h
end DL
namespace DL
open PySem L2
variable [HW]
end DL
set_option maxRecDepth 100000
set_option maxHeartbeats 400000
namespace DL
open PySem L2
variable [HW]
end DL
set_option maxRecDepth 100000
set_option maxHeartbeats 400000
namespace DL
open PySem L2
variable [HW]
end DL
set_option maxRecDepth 100000
set_option maxHeartbeats 400000
namespace DL
open PySem L2
variable [HW]
end DL
set_option maxRecDepth 100000
set_option maxHeartbeats 400000
namespace DL
open PySem L2
variable [HW]
end DL
set_option maxRecDepth 100000
set_option maxHeartbeats 400000
namespace DL
open PySem L2
variable [HW]
end DL
set_option maxRecDepth 100000
set_option maxHeartbeats 400000
namespace DL
open PySem L2
variable [HW]
end DL
set_option maxRecDepth 100000
set_option maxHeartbeats 400000
namespace DL
open PySem L2
variable [HW]
end DL
set_option maxRecDepth 100000
set_option maxHeartbeats 400000
namespace DL
open PySem L2
variable [HW]
end DL
namespace DL
open PySem L2
variable [HW]
end DL
set_option maxRecDepth 100000
set_option maxHeartbeats 400000
namespace DL
open PySem L2
variable [HW]
end DL
set_option maxRecDepth 100000
set_option maxHeartbeats 400000
namespace DL
open PySem L2
variable [HW]
end DL
set_option maxRecDepth 100000
set_option maxHeartbeats 400000
namespace DL
open PySem L2
variable [HW]
end DL
set_option maxRecDepth 100000
set_option maxHeartbeats 400000
namespace DL
open PySem L2
variable [HW]
end DL
namespace DL
open PySem L2
variable [HW]
end DL
set_option maxRecDepth 100000
set_option maxHeartbeats 400000
namespace DL
open PySem L2
variable [HW]
def insR (acc : List Str) (y : Str) : List Str := if y ∈ acc then acc else acc ++ [y]
def uR (l : List Str) : List Str := l.foldl insR []
theorem insR_len (acc : List Str) (y : Str) : (insR acc y).length ≤ acc.length + 1 := by
  unfold insR
  split
  · omega
  · simp
def tru (l : List Str) : List (Str × D) := l.map fun s => (s, .bool true)
theorem tru_keys (l : List Str) : (tru l).map (·.1) = l := by simp [tru, Function.comp_def]
theorem lookup_tru {l : List Str} {s : Str} : s ∈ l → (tru l).lookup s = some (.bool true) := by
  induction l with
  | nil => intro h; cases h
  | cons a l ih =>
    intro h
    show ((a, PyData.bool true) :: tru l).lookup s = _
    rw [List.lookup_cons]
    by_cases c : s = a
    · subst c; simp
    · rw [show (s == a) = false by simpa using c]
      exact ih ((List.mem_cons.mp h).resolve_left c)
theorem putK_tru (l : List Str) (s : Str) : putK' (sdic (tru l)) (.inr s) (.bool true) = sdic (tru (insR l s)) := by
  unfold insR
  split
  · rename_i c
    unfold putK'
    rw [getK_sdic, lookup_tru c, if_pos (show (some (PyData.bool true)).isSome = true from rfl)]
    unfold sdic tru
    rw [List.map_map, List.map_map, List.map_map]
    apply List.map_congr_left
    intro t _
    show (if dKey (.str t) = some (Sum.inr s) then (PyData.str t, PyData.bool true) else (.str t, .bool true)) = _
    rw [ite_self]
    rfl
  · rename_i c
    rw [putK_sdic _ (lookup_none (by rw [tru_keys]; exact c))]
    simp [tru]
theorem dcL_tru {k : TM} {fk : EM} {ρ : Env} {h : Hh} (g : D → Str) : ∀ {ds : List D} {l : List Str}, l.length + ds.length ≤ sizeLine →
    (∀ d ∈ ds, ∃ ρ1, k (.dat d) ρ h = some ρ1 ∧ fk ρ1 h = some (.dat (.str (g d)), h)) → dcL k bYes fk (fC (.bool true)) ρ ds (sdic (tru l)) h = some (sdic (tru ((ds.map g).foldl insR l)), h)
  | [], l, _, _ => by simp [dcL]
  | d :: ds, l, hl, H => by
    obtain ⟨ρ1, e1, e2⟩ := H d List.mem_cons_self
    unfold dcL
    simp only [e1, bYes, obnd, if_true, e2, dKey_str, fC]
    rw [List.length_cons] at hl
    have hlen : (sdic (tru l)).length < sizeLine := by
      simp only [sdic, tru, List.length_map]
      omega
    rw [if_pos hlen, putK_tru]
    have il := insR_len l (g d)
    exact dcL_tru (k := k) (fk := fk) (ρ := ρ) (h := h) g (ds := ds) (l := insR l (g d)) (by omega) fun e he => H e (List.mem_cons_of_mem _ he)
end DL
set_option maxRecDepth 100000
set_option maxHeartbeats 400000
namespace DL
open PySem L2
variable [HW]
end DL
set_option maxRecDepth 100000
set_option maxHeartbeats 400000
namespace DL
open PySem L2
variable [HW]
def OkA (h : Hh) : Prop := h.all okM = true
theorem OkA.nil : OkA [] := rfl
theorem okM_ints (a b c : Int) : okM (some (.lst [.int a, .int b, .int c])) = true := by simp [okM, noLs, noL]
theorem OkA.only {h h' : Hh} {b c : Nat} (x : OkA h) (o : Only b h h') (bx : BoxAt h' b c) : OkA h' := by
  unfold OkA at *
  rw [List.all_eq_true] at *
  intro z hz
  obtain ⟨i, hi, e⟩ := List.getElem_of_mem hz
  have e' : h'[i]? = some z := by rw [List.getElem?_eq_getElem hi, e]
  by_cases hb : i = b
  · subst hb
    obtain ⟨d, s, k, q, _⟩ := bx
    rw [q] at e'
    cases e'
    exact okM_ints _ _ _
  · rw [o.off i hb] at e'
    exact x z (List.mem_of_getElem? e')
theorem OkA.take {h : Hh} (n : Nat) (x : OkA h) : OkA (h.take n) := by
  unfold OkA at *
  rw [List.all_eq_true] at *
  exact fun z hz => x z (List.mem_of_mem_take hz)
end DL
set_option maxRecDepth 100000
set_option maxHeartbeats 400000
namespace DL
open PySem L2
variable [HW]
def Srt (r : List Str) (key : Str → Nat) (m : List Str) : Prop := m.Perm r ∧ m.Pairwise fun a b => key a < key b ∨ (key a = key b ∧ r.idxOf a < r.idxOf b)
theorem Srt.congr {r m : List Str} {key key' : Str → Nat} (h : Srt r key m) (e : ∀ s ∈ r, key s = key' s) : Srt r key' m := by
  refine ⟨h.1, List.Pairwise.imp_of_mem ?_ h.2⟩
  intro a b ha hb q
  rw [← e a (h.1.mem_iff.mp ha), ← e b (h.1.mem_iff.mp hb)]
  exact q
end DL
namespace DL
open PySem L2
variable [HW]
end DL
set_option maxRecDepth 100000
set_option maxHeartbeats 400000
namespace DL
open PySem L2
variable [HW]
end DL
set_option maxRecDepth 100000
set_option maxHeartbeats 400000
namespace DL
open PySem L2
variable [HW]
theorem bools_map {α : Type} (p : α → Bool) : ∀ l : List α, bools (l.map fun i => .bool (p i)) = some (l.map p)
  | [] => rfl
  | a :: l => by rw [List.map_cons, bools, bools_map p l]; rfl
end DL
set_option maxRecDepth 100000
set_option maxHeartbeats 400000
namespace DL
open PySem L2
variable [HW]
end DL
set_option maxRecDepth 100000
set_option maxHeartbeats 400000
namespace DL
open PySem L2
variable [HW]
end DL
set_option maxRecDepth 100000
set_option maxHeartbeats 400000
namespace DL
open PySem L2
variable [HW]
structure JD (h0 h : Hh) : Prop where
  pre : Pre h0 h
  len : h0.length ≤ h.length
  nod : h.all noDM = true
theorem noDM_ints (a b c : Int) : noDM (some (.lst [.int a, .int b, .int c])) = true := by simp [noDM, noDs, noD]
theorem nod_only {h h' : Hh} {b c : Nat} (hk : h.all noDM = true) (o : Only b h h') (bx : BoxAt h' b c) : h'.all noDM = true := by
  rw [List.all_eq_true] at *
  intro z hz
  obtain ⟨i, hi, e⟩ := List.getElem_of_mem hz
  have e' : h'[i]? = some z := by rw [List.getElem?_eq_getElem hi, e]
  by_cases hb : i = b
  · subst hb
    obtain ⟨d, s, k, q, _⟩ := bx
    rw [q] at e'
    cases e'
    exact noDM_ints _ _ _
  · rw [o.off i hb] at e'
    exact hk z (List.mem_of_getElem? e')
theorem JD.only {h0 h h' : Hh} {b c : Nat} (j : JD h0 h) (hb : h0.length ≤ b) (o : Only b h h') (bx : BoxAt h' b c) : JD h0 h' := ⟨j.pre.only hb o, by rw [o.len]; exact j.len, nod_only j.nod o bx⟩
end DL
namespace DL
open PySem L2
variable [HW]
end DL
namespace DL
open PySem L2
variable [HW]
end DL
set_option maxRecDepth 100000
namespace DL
open PySem L2
variable [HW]
end DL
set_option maxRecDepth 100000
set_option maxHeartbeats 400000
namespace DL
open PySem L2
variable [HW]
end DL
set_option maxRecDepth 100000
set_option maxHeartbeats 400000
namespace DL
open PySem L2
variable [HW]
end DL
set_option maxRecDepth 100000
set_option maxHeartbeats 400000
namespace DL
open PySem L2
variable [HW]
end DL
set_option maxRecDepth 100000
set_option maxHeartbeats 400000
namespace DL
open PySem L2
variable [HW]
end DL
set_option maxRecDepth 100000
set_option maxHeartbeats 400000
namespace DL
open PySem L2
variable [HW]
theorem nd_inj {S : List Str} (nd : S.Nodup) {i j : Nat} (hi : i < S.length) (hj : j < S.length) (e : S[i] = S[j]) : i = j := by
  rcases Nat.lt_trichotomy i j with h | h | h
  · exact absurd e (List.pairwise_iff_getElem.mp nd i j hi hj h)
  · exact h
  · exact absurd e.symm (List.pairwise_iff_getElem.mp nd j i hj hi h)
structure Nam (l : List Str) (ms : List (Str × Str)) : Prop where
  key : ms.map (·.1) = l
  nd : l.Nodup
  inj : (ms.map (·.2)).Nodup
  txt : Txts (ms.map (·.2))
section
variable {l : List Str} {ms : List (Str × Str)} (N : Nam l ms)
include N
theorem Nam.nk : (ms.map (·.1)).Nodup := by rw [N.key]; exact N.nd
theorem Nam.map : l.map (goal ms) = ms.map (·.2) := by
  rw [← N.key, List.map_map]
  apply List.map_congr_left
  intro p hp
  exact goal_of N.nk p hp
theorem Nam.one {a b : Str} (ha : a ∈ l) (hb : b ∈ l) : goal ms a = goal ms b ↔ a = b := by
  constructor
  · intro e
    obtain ⟨i, hi, rfl⟩ := List.getElem_of_mem ha
    obtain ⟨j, hj, rfl⟩ := List.getElem_of_mem hb
    have nd := N.inj
    rw [← N.map] at nd
    have q : (l.map (DL.goal ms))[i]'(by rw [List.length_map]; exact hi) = (l.map (DL.goal ms))[j]'(by rw [List.length_map]; exact hj) := by rw [List.getElem_map, List.getElem_map]; exact e
    have := nd_inj nd (by rw [List.length_map]; exact hi) (by rw [List.length_map]; exact hj) q
    subst this; rfl
  · rintro rfl; rfl
end
section
variable {r : List Str} {ms ps : List (Str × Str)} (N : Nam r ms) (c : CallOf r ps)
include N c
end
end DL
set_option maxRecDepth 100000
set_option maxHeartbeats 400000
namespace DL
open PySem L2
variable [HW]
end DL
set_option maxRecDepth 100000
set_option maxHeartbeats 400000
namespace DL
open PySem L2
variable [HW]
end DL
set_option maxRecDepth 100000
namespace DL
open PySem L2
variable [HW]
end DL
set_option maxRecDepth 100000
set_option maxHeartbeats 400000
namespace DL
open PySem L2
variable [HW]
end DL
set_option maxRecDepth 100000
set_option maxHeartbeats 400000
namespace DL
open PySem L2
variable [HW]
end DL
set_option maxRecDepth 100000
set_option maxHeartbeats 400000
namespace DL
open PySem L2
variable [HW]
section
variable {ρ ρ1 ρ2 : DL.Env} {h h1 h2 : Hh}
theorem xN : fNil ρ h = some ([], h) := rfl
theorem xC {E : EM} {g : AM} {w : W} {ws : List W} (he : E ρ h = some (w, h1)) (hg : g ρ h1 = some (ws, h2)) : fCons E g ρ h = some (w :: ws, h2) := by simp only [fCons, obnd, he, hg]
theorem xA {m : FM} {g : AM} {ws : List W} {r : Option (W × Hh)} (hg : g ρ h = some (ws, h1)) (hm : m ws h1 = r) : fA m g ρ h = r := by simp only [fA, obnd, hg, hm]
theorem x2 {f : W → W → Hh → Option (W × Hh)} {A B : EM} {x y : W} {r : Option (W × Hh)} (ha : A ρ h = some (x, h1)) (hb : B ρ h1 = some (y, h2)) (hf : f x y h2 = r) : f2 f A B ρ h = r := by simp only [f2, obnd, ha, hb, hf]
theorem xL {IT : IM} {k : TM} {f : EM} {vs : List Nat} {ds rs : List D} (hi : IT ρ h = some (ds, h1)) (e : lcL k bYes f (wipeE ρ vs) ds h1 = some (rs, h2)) (hl : rs.length ≤ sizeLine) : fLc false IT k bYes f vs ρ h = some (.dat (.list rs), h2) := by
  unfold fLc
  simp only [hi, obnd, e]
  rw [if_pos hl]
  rfl
theorem xS {E : EM} {x : D} {ds : List D} (he : E ρ h = some (.dat x, h1)) (hx : IsSeq x ds) : seqI E ρ h = some (ds, h1) := by
  unfold seqI
  simp only [he, obnd]
  rcases hx with rfl | rfl <;> rfl
theorem xO {A B : BM} {r : Option (Bool × Hh)} (ha : A ρ h = some (false, h1)) (hb : B ρ h1 = r) : bOr A B ρ h = r := by
  unfold bOr
  simp only [ha, obnd]
  exact hb
theorem xAnd {A B : EM} {r : Option (W × Hh)} (ha : A ρ h = some (.dat (.bool true), h1)) (hb : B ρ h1 = r) : fAnd A B ρ h = r := by
  unfold fAnd
  simp only [ha, obnd]
  exact hb
theorem xTup {x : D} {ds : List D} (hx : IsSeq x ds) : tupleW [.dat x] h = some (.dat (.tuple ds), h) := by rcases hx with rfl | rfl <;> rfl
theorem xLst {ws : List W} {ds : List D} (e : dats ws = some ds) (hl : ds.length ≤ sizeLine) : lstW false ws h = some (.dat (.list ds), h) := by
  unfold lstW
  simp only [e, hl, if_true]
  rfl
theorem xTp {ws : List W} {ds : List D} (e : dats ws = some ds) (hl : ds.length ≤ sizeLine) : tupW ws h = some (.dat (.tuple ds), h) := by
  unfold tupW
  simp only [e, hl, if_true]
  rfl
theorem zA {E : EM} {k : TM} {rest : SM} {w : W} (he : E ρ h = some (w, h1)) (hk : k w ρ h1 = some ρ1) : sSeq (sAsg E k) rest ρ h = rest ρ1 h1 := by
  unfold sSeq sAsg
  simp only [he, sbnd, hk]
theorem zF {IT : IM} {k : TM} {body rest : SM} {ds : List D} (hi : IT ρ h = some (ds, h1)) (e : forL k body ds ρ h1 = some (.nx ρ2, h2)) : sSeq (sFor IT k body) rest ρ h = rest ρ2 h2 := by
  unfold sSeq sFor
  simp only [hi, sbnd, e]
theorem zP {g : AM} {is : List Nat} {rest : SM} {ws : List W} (hg : g ρ h = some (ws, h1)) (hl : ws.length = is.length) (hr : (is.zip ws).foldl (fun ρ p => ρ.set p.1 (some p.2)) ρ = ρ1) : sSeq (sPar g is) rest ρ h = rest ρ1 h1 := by
  unfold sSeq sPar
  simp only [hg, sbnd, hl, if_true, hr]
theorem zR {E : EM} {w : W} (he : E ρ h = some (w, h1)) : sRet E ρ h = some (.rt w, h1) := by
  unfold sRet
  simp only [he, sbnd]
end
end DL
set_option maxRecDepth 100000
set_option maxHeartbeats 400000
namespace DL
open PySem L2
variable [HW]
end DL
set_option maxRecDepth 100000
namespace DL
open PySem L2
variable [HW]
end DL
set_option maxRecDepth 100000
set_option maxHeartbeats 400000
namespace DL
open PySem L2
variable [HW]
end DL
set_option maxRecDepth 100000
set_option maxHeartbeats 400000
namespace DL
open PySem L2
variable [HW]
end DL
set_option maxRecDepth 100000
namespace DL
open PySem L2
variable [HW]
end DL
set_option maxRecDepth 100000
set_option maxHeartbeats 400000
namespace DL
open PySem L2
variable [HW]
def EvP (t : Nat → Bool) (a k : Nat) : Prop := ∀ n, a ≤ n → t (n + k) = t n
theorem EvP.mono {t : Nat → Bool} {a b k : Nat} (h : EvP t a k) (q : a ≤ b) : EvP t b k := fun n hn => h n (by omega)
end DL
set_option maxRecDepth 100000
set_option maxHeartbeats 400000
namespace DL
open PySem L2
variable [HW]
end DL
set_option maxRecDepth 100000
set_option maxHeartbeats 400000
namespace DL
open PySem L2
variable [HW]
end DL
set_option maxRecDepth 100000
set_option maxHeartbeats 400000
namespace DL
open PySem L2
variable [HW]
def tl (t : Nat → Bool) (a n : Nat) : List Bool := (List.range n).map fun s => t (a + s)
end DL
set_option maxRecDepth 100000
set_option maxHeartbeats 400000
namespace DL
open PySem L2
variable [HW]
end DL
set_option maxRecDepth 100000
set_option maxHeartbeats 400000
namespace DL
open PySem L2
variable [HW]
end DL
set_option maxRecDepth 100000
set_option maxHeartbeats 400000
namespace DL
open PySem L2
variable [HW]
end DL
set_option maxRecDepth 100000
namespace DL
open PySem L2
variable [HW]
end DL
set_option maxRecDepth 100000
set_option maxHeartbeats 400000
namespace DL
open PySem L2
variable [HW]
theorem fnM_rt {rm : Bool} {np nl : Nat} {body : SM} {ws : List W} {h h' : Hh} {w : W} {r : Option (W × Hh)} (hb : body (ws.map some ++ List.replicate (nl - np) none) h = some (.rt w, h')) (e : ws.length = np) (lv : leave rm h w h' = r) : fnM rm np nl body ws h = r := by
  rw [fnM_e _ _ _ _ _ _ e, hb, retK_rt, lv]
section
variable {h : Hh}
theorem add_i {i j : Int} : addW false (.dat (.int i)) (.dat (.int j)) h = some (.dat (.int (i + j)), h) := rfl
theorem sub_i {i j : Int} : subW (.dat (.int i)) (.dat (.int j)) h = some (.dat (.int (i - j)), h) := by
  unfold subW intW
  simp only [deref, if_true]
  rfl
theorem xB {E : EM} {ρ : DL.Env} {b : Bool} (e : E ρ h = some (.dat (.bool b), h)) : fB E ρ h = some (b, h) := by
  unfold fB
  simp only [e, obnd]
theorem all_b {bs : List Bool} {b : Bool} (e : bs.all id = b) : allW [.dat (.list (bs.map .bool))] h = some (.dat (.bool b), h) := by
  have ba : bools (bs.map PyData.bool) = some bs := by have := bools_map (fun b : Bool => b) bs; rwa [List.map_id'] at this
  unfold allW lW
  simp only [deref, ba, e]
  rfl
theorem eq_i {i j : Int} {b : Bool} (hb : decide (i = j) = b) : eqW false (.dat (.int i)) (.dat (.int j)) h = some (.dat (.bool b), h) := by
  rw [eqW_ints, if_neg (by simp), hb]; rfl
theorem xAndF {A B : EM} {ρ : DL.Env} (e : A ρ h = some (.dat (.bool false), h)) : fAnd A B ρ h = some (.dat (.bool false), h) := by
  unfold fAnd
  simp only [e, obnd]
  rfl
end
abbrev zz : Str := "zz"
end DL
set_option maxRecDepth 100000
set_option maxHeartbeats 400000
namespace DL
open PySem L2
variable [HW]
structure Grow (b : Nat) (h h' : Hh) : Prop where
  le : h.length ≤ h'.length
  off : ∀ i : Nat, i < h.length → i ≠ b → h'[i]? = h[i]?
theorem Grow.only {b : Nat} {h h' : Hh} (o : Only b h h') : Grow b h h' := ⟨by rw [o.len]; exact Nat.le_refl _, fun i _ n => o.off i n⟩
theorem Grow.trans {b : Nat} {h h1 h2 : Hh} (x : Grow b h h1) (y : Grow b h1 h2) : Grow b h h2 := ⟨Nat.le_trans x.le y.le, fun i hi n => (y.off i (Nat.lt_of_lt_of_le hi x.le) n).trans (x.off i hi n)⟩
end DL
set_option maxRecDepth 100000
namespace DL
open PySem L2
variable [HW]
end DL
set_option maxRecDepth 100000
set_option maxHeartbeats 400000
namespace DL
open PySem L2
variable [HW]
end DL
set_option maxRecDepth 100000
namespace DL
open PySem L2
variable [HW]
end DL
set_option maxRecDepth 100000
set_option maxHeartbeats 400000
namespace DL
open PySem L2
variable [HW]
end DL
set_option maxRecDepth 100000
set_option maxHeartbeats 400000
namespace DL
open PySem L2
variable [HW]
section
variable {ρ ρ1 : DL.Env} {h h1 h2 : Hh}
theorem bAndF {a b : BM} (e : a ρ h = some (false, h1)) : bAnd a b ρ h = some (false, h1) := by
  unfold bAnd
  simp only [e, obnd, Bool.false_eq_true, if_false]
theorem bAndT {a b : BM} {r : Option (Bool × Hh)} (e : a ρ h = some (true, h1)) (q : b ρ h1 = r) : bAnd a b ρ h = r := by
  unfold bAnd
  simp only [e, obnd, if_true]
  exact q
theorem zApp {A E : EM} {rest : SM} {n : Nat} {ds : List D} {d : D} (ha : A ρ h = some (.ref n, h1)) (hn : h1[n]? = some (some (.lst ds))) (he : E ρ h1 = some (.dat d, h2)) (hn2 : h2[n]? = some (some (.lst ds))) (hl : ds.length < sizeLine) :
    sSeq (sExpr (fM isL appendW A (fCons E fNil))) rest ρ h = rest ρ (h2.set n (some (.lst (ds ++ [d])))) := by
  have il : isL (.ref n) h1 = true := by simp only [isL, deref, hn]
  have ap : appendW (.ref n) [.dat d] h2 = some (.dat .none, h2.set n (some (.lst (ds ++ [d])))) := by
    simp only [appendW, lstAt, hn2, setL, hl, if_true]
  unfold sSeq sExpr fM
  simp only [ha, obnd, il, if_true, xC he xN, ap, sbnd]
theorem zAppE {A E : EM} {n : Nat} {ds : List D} {d : D} (ha : A ρ h = some (.ref n, h1)) (hn : h1[n]? = some (some (.lst ds))) (he : E ρ h1 = some (.dat d, h2)) (hn2 : h2[n]? = some (some (.lst ds))) (hl : ds.length < sizeLine) :
    sExpr (fM isL appendW A (fCons E fNil)) ρ h = some (.nx ρ, h2.set n (some (.lst (ds ++ [d])))) := by
  have il : isL (.ref n) h1 = true := by simp only [isL, deref, hn]
  have ap : appendW (.ref n) [.dat d] h2 = some (.dat .none, h2.set n (some (.lst (ds ++ [d])))) := by
    simp only [appendW, lstAt, hn2, setL, hl, if_true]
  unfold sExpr fM
  simp only [ha, obnd, il, if_true, xC he xN, ap, sbnd]
end
end DL
set_option maxHeartbeats 400000
namespace LW
open PySem L2 DL
variable [HW]
local macro_rules | `(tactic| walk_at "dl") => `(tactic| simp (config := { dsimp := false }) only [↓fnM_e, ↓sSeq_e, seqK_nx, seqK_rt, seqK_bk, seqK_ct, retK_rt, retK_nx, ↓sFrz_e, frK_some, ↓sAsg, ↓sRet, ↓sRetN, ↓sIf, ↓sExpr, ↓sSkip, ↓sNever, ↓sPar, ↓sFor, ↓sSub, ↓fVar, ↓fC, ↓fNil, ↓fCons, ↓fA, ↓f1, ↓f2, ↓fB, ↓fIf, ↓fNeg, ↓fNot, ↓fAnd, ↓fOr, ↓bNot, ↓bAnd, ↓bOr, ↓bYes, ↓obnd_x, ob_some, ↓sbnd_x, sb_some, ↓ite_x, iteK_t, iteK_f, gN, gT, gC, gE, ↓rng1I, ↓rng2I, ↓seqI, ↓enumA, ↓zipI, ↓strI, ↓fLc, ↓fDc, ↓fM, ↓fSl, ↓oNone, ↓oSome, ↓fRev, wipeE, ↓kwM, permM, permL, List.foldr, List.length_cons, List.length_nil, List.map_cons, List.map_nil, List.cons_append, List.nil_append, List.replicate, List.replicate_succ, List.replicate_zero, List.getElem?_cons_zero, List.getElem?_cons_succ, List.set_cons_zero, List.set_cons_succ, if_true, if_false, reduceIte, Nat.reduceAdd, Nat.reduceSub, Nat.reduceEqDiff, Nat.reduceLT, Nat.reduceLeDiff, Int.reduceLT, Int.reduceLE, Int.reduceNeg, Int.reduceMul, Int.reduceAdd, Int.reduceSub, Int.reduceToNat, Int.reducePow, Int.reduceEq, ok, bok, deref, mkL, lstW, tupW, dats, Option.map_some, appendW, insertW, setL, isL, listW, tupleW, lenW, absW, intC, maxW, minW, idxW, addW, subW_e, modW_e, divW_e, powW_e, mulW, intW, lt_e, gt_e, le_e, ge_e, ltW, allW_e, anyW_e, sumW_e, lW, setW, lstAt, cutW, backW, isW, isiW, iLT_none, iLT_bool, iLT_int, iLT_str, iLT_list, iLT_tup, iL_none, iL_bool, iL_int, iL_str, iL_list, iL_tup, iT_none, iT_bool, iT_int, iT_str, iT_list, iT_tup, iS_none, iS_bool, iS_int, iS_str, iS_list, iS_tup, iI_none, iI_bool, iI_int, iI_str, iI_list, iI_tup, iB_none, iB_bool, iB_int, iB_str, iB_list, iB_tup, Bool.false_eq_true, reduceCtorEq, Bool.not_true, Bool.not_false, decide_true, decide_false, List.zip_cons_cons, List.zip_nil_left, List.foldl_cons, List.foldl_nil, and_self, and_true, true_and, Bool.and_true, Bool.true_and, Bool.or_true, Bool.true_or, *])
noncomputable def m__law_is_row : FM := fnM false 1 2 (sSeq (sIf (bOr (bNot (fB (f1 (isiW ["tuple"]) (fVar 0)))) (fB (f2 (eqW false) (fA lenW (fCons (fVar 0) (fNil))) (fC (.int 0))))) (sRet (fC (.bool false))) (sSkip))
    (sSeq (sFor (seqI (fVar 0)) (gN 1)
    (sIf (bOr (bNot (fB (f1 (isiW ["str"]) (fVar 1)))) (bOr (bNot (fB (fChain lt_W lt_W (fC (.int 0)) (fA lenW (fCons (fVar 1) (fNil))) (fC (.int 7))))) (fB (f2 (eqW true) (fStrip (fVar 1) (fC (.str "abcdefghijklmnopqrstuvwxyz"))) (fC (.str "")))))) (sRet (fC (.bool false))) (sSkip)))
    (sRet (fA allW (fCons (fLc false (seqI (fVar 0)) (gN 1) (bYes) (f2 (eqW false) (fM isTp countT (fVar 0) (fCons (fVar 1) (fNil))) (fC (.int 1))) [1]) (fNil))))))
noncomputable def m__law_odd : FM := fnM false 1 2 (sSeq (sAsg (fA (lstW false) (fCons (fC .none) (fCons (fC (.bool true)) (fCons (fC (.int 0)) (fCons (fC (.int 1)) (fCons (fNeg (fC (.int 1))) (fCons (fC (.str "")) (fCons (fC (.str "a")) (fCons (fC (.str "A")) (fCons (fC (.str "a b")) (fCons (fC (.str "abcdefg")) (fCons (fC (.str "a1")) (fCons (fA tupW (fNil)) (fCons (fA (lstW false) (fNil)) (fCons (fA tupW (fCons (fC (.str "a")) (fNil))) (fCons (fA (lstW false) (fCons (fC (.str "a")) (fNil))) (fCons (fA tupW (fCons (fC (.str "a")) (fCons (fC (.str "a")) (fNil)))) (fCons (fA tupW (fCons (fC (.str "a")) (fCons (fC (.str "b")) (fNil)))) (fNil))))))))))))))))))) (gN 1))
    (sRet (f2 idxW (f2 (addW false) (fVar 1) (fA (lstW false) (fCons (fA tupW (fCons (fA tupW (fCons (fC (.str "a")) (fCons (fC (.str "a")) (fNil)))) (fNil))) (fCons (fA (lstW false) (fCons (fA tupW (fCons (fC (.str "a")) (fCons (fC (.str "a")) (fNil)))) (fNil))) (fCons (fA tupW (fCons (fA tupW (fCons (fC (.str "a")) (fCons (fC (.str "b")) (fNil)))) (fNil))) (fCons (fA tupW (fCons (fA tupW (fNil)) (fNil))) (fNil))))))) (fA (m__law_take) (fCons (fVar 0) (fCons (fC (.int 21)) (fNil)))))))
noncomputable def m__law_otherwise : Nat → FM
  | 0 => fun _ _ => none
  | n + 1 => fnM false 2 5 (sSeq (sIf (bAnd (fB (f1 (isiW ["list", "tuple"]) (fVar 1))) (bAnd (fB (f2 gt_W (fA lenW (fCons (fVar 1) (fNil))) (fC (.int 0)))) (fB (f2 gt_W (fA (m__law_take) (fCons (fVar 0) (fCons (fC (.int 6)) (fNil)))) (fC (.int 0)))))) (sSeq (sPar (fCons (fA (m__law_take) (fCons (fVar 0) (fCons (fA lenW (fCons (fVar 1) (fNil))) (fNil)))) (fCons (fA (m__law_take) (fCons (fVar 0) (fCons (fC (.int 10)) (fNil)))) (fCons (fA (listW true) (fCons (fVar 1) (fNil))) (fNil)))) [2, 3, 4])
    (sSeq (sIf (fB (f2 lt_W (fVar 3) (fC (.int 6)))) (sSub (fA (m__law_otherwise n) (fCons (fVar 0) (fCons (f2 idxW (fVar 1) (fVar 2)) (fNil)))) (fVar 4) (fVar 2)) (sIf (fB (f2 (eqW false) (fVar 3) (fC (.int 6)))) (sExpr (fM isL popAtW (fVar 4) (fCons (fVar 2) (fNil)))) (sIf (fB (f2 (eqW false) (fVar 3) (fC (.int 7)))) (sExpr (fM isL insertW (fVar 4) (fCons (fVar 2) (fCons (f2 idxW (fVar 1) (fVar 2)) (fNil))))) (sIf (fB (f2 (eqW false) (fVar 3) (fC (.int 8)))) (sExpr (fM isL reverseW (fVar 4) fNil)) (sRet (fIf (fB (f1 (isiW ["tuple"]) (fVar 1))) (fVar 4) (fA tupleW (fCons (fVar 4) (fNil)))))))))
    (sFrz 4 (sRet (fIf (fB (f1 (isiW ["list"]) (fVar 1))) (fVar 4) (fA tupleW (fCons (fVar 4) (fNil)))))))) (sSkip))
    (sSeq (sIf (bAnd (fB (f1 (isiW ["int"]) (fVar 1))) (bAnd (bNot (fB (f1 (isiW ["bool"]) (fVar 1)))) (fB (f2 gt_W (fA (m__law_take) (fCons (fVar 0) (fCons (fC (.int 4)) (fNil)))) (fC (.int 0)))))) (sRet (f2 idxW (fA (lstW false) (fCons (f2 (addW false) (fVar 1) (fC (.int 1))) (fCons (f2 subW (fVar 1) (fC (.int 1))) (fCons (fC (.int 0)) (fCons (fNeg (fVar 1)) (fCons (f2 (eqW false) (fVar 1) (fC (.int 1))) (fCons (fA strIW (fCons (fVar 1) (fNil))) (fCons (fC .none) (fNil))))))))) (fA (m__law_take) (fCons (fVar 0) (fCons (fC (.int 7)) (fNil)))))) (sSkip))
    (sSeq (sIf (bAnd (fB (f1 (isiW ["str"]) (fVar 1))) (fB (f2 gt_W (fA (m__law_take) (fCons (fVar 0) (fCons (fC (.int 4)) (fNil)))) (fC (.int 0))))) (sRet (f2 idxW (fA (lstW false) (fCons (f2 (addW false) (fVar 1) (fC (.str "s"))) (fCons (fSl false (fVar 1) (oSome (fC (.int 1))) (oNone)) (fCons (fUp (fVar 1)) (fCons (f2 (addW false) (fVar 1) (fC (.str " "))) (fCons (fA tupW (fCons (fVar 1) (fNil))) (fCons (fRev false (fVar 1)) (fNil)))))))) (fA (m__law_take) (fCons (fVar 0) (fCons (fC (.int 6)) (fNil)))))) (sSkip))
    (sRet (fA (m__law_odd) (fCons (fVar 0) (fNil)))))))
noncomputable def m__law_right : FM := fnM false 1 10 (sSeq (sAsg (fA tupleW (fCons (fA (m__law_crew) (fCons (fVar 0) (fCons (fC (.int 8)) (fNil)))) (fNil))) (gN 1))
    (sSeq (sAsg (fA (lstW false) (fCons (fVar 1) (fCons (fA (listW false) (fCons (fVar 1) (fNil))) (fCons (fA tupW (fNil)) (fCons (fA (lstW false) (fNil)) (fCons (fC .none) (fCons (fC (.str "a")) (fCons (fA tupW (fCons (fC (.str "a")) (fCons (fC (.str "a")) (fNil)))) (fCons (fA tupW (fCons (fC (.str "abcdef")) (fNil))) (fCons (fA tupW (fCons (fC (.str "abcdefg")) (fNil))) (fCons (fA tupW (fCons (fC (.str "a")) (fCons (fC (.str "B")) (fNil)))) (fCons (fA tupW (fCons (fC (.str "a")) (fCons (fC (.str "")) (fNil)))) (fCons (fA tupW (fCons (fC (.int 1)) (fNil))) (fNil)))))))))))))) (gN 2))
    (sSeq (sAsg (f2 (addW true) (fVar 2) (fA (lstW false) (fCons (f2 (addW false) (fVar 1) (fSl false (fVar 1) (oNone) (oSome (fC (.int 1))))) (fCons (f2 (addW false) (fVar 1) (fA tupW (fCons (fC (.str "a-b")) (fNil)))) (fCons (fA tupW (fCons (fVar 1) (fNil))) (fNil)))))) (gN 2))
    (sSeq (sExpr (fM isL appendW (fVar 2) (fCons (fA tupleW (fCons (fLc false (strI (f2 mulSW (fC (.str "abcdefghijklmnopqrst")) (fC (.int 2)))) (gN 7) (bYes) (f2 (addW false) (fVar 7) (fC (.str "x"))) [7]) (fNil))) (fNil))))
    (sSeq (sExpr (fM isL appendW (fVar 2) (fCons (fA tupleW (fCons (fLc false (zipTB (fCons (f2 mulSW (fC (.str "abcdefghijklmnopqrst")) (fC (.int 2))) (fCons (f2 (addW false) (f2 mulSW (fC (.str "u")) (fC (.int 20))) (f2 mulSW (fC (.str "v")) (fC (.int 20)))) (fNil)))) (gT 2 (gC (gN 8) (gC (gN 9) (gE)))) (bYes) (f2 (addW false) (fVar 8) (fVar 9)) [8, 9]) (fNil))) (fNil))))
    (sSeq (sFor (rng1I (fCons (fC (.int 12)) (fNil))) (gN 3)
    (sSeq (sAsg (fA (m__law_otherwise 12) (fCons (fVar 0) (fCons (fVar 1) (fNil)))) (gN 4))
    (sExpr (fM isL appendW (fVar 2) (fCons (fIf (fB (f2 (eqW false) (fA (m__law_take) (fCons (fVar 0) (fCons (fC (.int 3)) (fNil)))) (fC (.int 0)))) (fA (m__law_otherwise 12) (fCons (fVar 0) (fCons (fVar 4) (fNil)))) (fVar 4)) (fNil))))))
    (sFrz 2 (sSeq (sFor (seqI (fVar 2)) (gN 4)
    (sSeq (sPar (fCons (fA reprA (fCons (fVar 4) (fNil))) (fCons (fA (m__law_is_row) (fCons (fVar 4) (fNil))) (fNil))) [5, 6])
    (sIf (bOr (bNot (fB (fA (m__law_same 12) (fCons (fA (lstW false) (fCons (fA (m_is_row) (fCons (fVar 4) (fNil))) (fCons (fA (kwM 1 [0] (m_is_row)) (fCons (fVar 4) (fNil))) (fNil)))) (fCons (fA (lstW false) (fCons (fVar 6) (fCons (fVar 6) (fNil)))) (fNil)))))) (fB (f2 (eqW true) (fA reprA (fCons (fVar 4) (fNil))) (fVar 5)))) (sRet (fC (.bool false))) (sSkip))))
    (sRet (fC (.bool true)))))))))))
noncomputable def m_law : FM := fnM false 1 4 (sSeq (sFor (rng1I (fCons (fA maxW (fCons (fC (.int 1)) (fCons (fA minW (fCons (fC (.int 3)) (fCons (fA lenW (fCons (fVar 0) (fNil))) (fNil)))) (fNil)))) (fNil))) (gN 1)
    (sSeq (sAsg (fA (m__law_box) (fCons (fVar 0) (fCons (fVar 1) (fNil)))) (gN 2))
    (sIf (bNot (fB (fA allW (fCons (fLc false (rng1I (fCons (fC (.int 4)) (fNil))) (gN 3) (bYes) (fA (m__law_right) (fCons (fVar 2) (fNil))) [3]) (fNil))))) (sRet (fC (.bool false))) (sSkip))))
    (sRet (fC (.bool true))))
mutual
def gd (m : Nat) : D → Bool
  | .str s => decide (s.length ≤ m) && s.cps.toList.all (· < 128)
  | .int i => decide (i.natAbs + 20 ≤ m)
  | .list ds => gds m ds
  | .tuple ds => gds m ds
  | .none => true
  | .bool _ => true
  | .dict _ => false
def gds (m : Nat) : List D → Bool
  | [] => true
  | d :: ds => gd m d && gds m ds
end
theorem gds_iff {m : Nat} : ∀ {ds : List D}, gds m ds = true ↔ ∀ d ∈ ds, gd m d = true
  | [] => by simp [gds]
  | d :: ds => by
    rw [gds, Bool.and_eq_true, gds_iff (ds := ds)]
    simp
mutual
theorem gd_up {m n : Nat} (h : m ≤ n) : ∀ {d : D}, gd m d = true → gd n d = true
  | .str s, e => by
    rw [gd, Bool.and_eq_true, decide_eq_true_eq] at e ⊢
    exact ⟨by omega, e.2⟩
  | .int i, e => by
    rw [gd, decide_eq_true_eq] at e ⊢
    omega
  | .list ds, e => by rw [gd] at e ⊢; exact gds_up h e
  | .tuple ds, e => by rw [gd] at e ⊢; exact gds_up h e
  | .none, _ => by rw [gd]
  | .bool _, _ => by rw [gd]
  | .dict _, e => by simp [gd] at e
theorem gds_up {m n : Nat} (h : m ≤ n) : ∀ {ds : List D}, gds m ds = true → gds n ds = true
  | [], _ => rfl
  | d :: ds, e => by
    rw [gds, Bool.and_eq_true] at e
    rw [gds, gd_up h e.1, gds_up h e.2]; rfl
end
theorem gd_txt {m : Nat} {s : Str} (hm : m ≤ 100) (h : gd m (.str s) = true) : TxtOk s := by
  rw [gd] at h
  simp only [Bool.and_eq_true, decide_eq_true_eq, List.all_eq_true] at h
  exact ⟨by omega, fun c hc => h.2 c hc⟩
theorem small_int {i : Int} {m : Nat} (hm : m ≤ 25) (h : gd m (.int i) = true) : i = -5 ∨ i = -4 ∨ i = -3 ∨ i = -2 ∨ i = -1 ∨ i = 0 ∨ i = 1 ∨ i = 2 ∨ i = 3 ∨ i = 4 ∨ i = 5 := by
  rw [gd, decide_eq_true_eq] at h
  omega
mutual
theorem gd_lay {m : Nat} (hm : m ≤ 25) : ∀ {d : D}, gd m d = true → d.canLay0 = true ∧ d.showable = true ∧ d.shown.length ≤ costD d
  | .none, _ => tx_lay rfl
  | .bool b, _ => tx_lay rfl
  | .int i, h => by
    have key : ∀ j : Int, (j = -5 ∨ j = -4 ∨ j = -3 ∨ j = -2 ∨ j = -1 ∨ j = 0 ∨ j = 1 ∨ j = 2 ∨ j = 3 ∨ j = 4 ∨ j = 5) → PyData.showable (.int j) = true ∧ (PyData.shown (.int j)).length ≤ costD (.int j) := fun j hj => by
      rcases hj with h | h | h | h | h | h | h | h | h | h | h <;> subst h <;> exact ⟨by decide +kernel, by decide +kernel⟩
    obtain ⟨k1, k2⟩ := key i (small_int hm h)
    exact ⟨by simp [PyData.canLay0], k1, k2⟩
  | .dict _, h => by simp [gd] at h
  | .str s, h => tx_lay (tx_str (gd_txt (by omega) h))
  | .list ds, h => by
    rw [gd] at h
    obtain ⟨h1, h2, h3⟩ := gd_lays hm h
    refine ⟨by rw [PyData.canLay0]; exact h1, by rw [PyData.showable]; exact h2, ?_⟩
    rw [PyData.shown, costD]
    exact Nat.le_trans (listText_len_le _) (by omega)
  | .tuple ds, h => by
    rw [gd] at h
    obtain ⟨h1, h2, h3⟩ := gd_lays hm h
    refine ⟨by rw [PyData.canLay0]; exact h1, by rw [PyData.showable]; exact h2, ?_⟩
    rw [PyData.shown, costD]
    exact Nat.le_trans (tupleText_len_le _) (by omega)
theorem gd_lays {m : Nat} (hm : m ≤ 25) : ∀ {ds : List D}, gds m ds = true → PyData.canLayAll0 ds = true ∧ PyData.showableAll ds = true ∧ ((PyData.shownAll ds).map (·.length)).sum + 2 * (PyData.shownAll ds).length ≤ costDs ds
  | [], _ => ⟨rfl, rfl, Nat.le_refl _⟩
  | d :: ds, h => by
    rw [gds, Bool.and_eq_true] at h
    obtain ⟨a1, a2, a3⟩ := gd_lay hm h.1
    obtain ⟨b1, b2, b3⟩ := gd_lays hm h.2
    refine ⟨by rw [PyData.canLayAll0, a1, b1]; rfl, by rw [PyData.showableAll, a2, b2]; rfl, ?_⟩
    rw [PyData.shownAll, costDs, List.map_cons, List.sum_cons, List.length_cons]
    omega
end
theorem gd_shp {m : Nat} {d : D} (hm : m ≤ 25) (h : gd m d = true) (hp : d.depth ≤ 64) : shp d = true := by
  obtain ⟨h1, _, _⟩ := gd_lay hm h
  unfold shp
  rw [h1, Bool.true_and, decide_eq_true_eq]
  exact hp
theorem reprA_ok {m : Nat} {d : D} {h : Hh} (hm : m ≤ 25) (hd : gd m d = true) (hp : d.depth ≤ 64) (hc : costD d ≤ 16777216) : reprA [.dat d] h = some (.dat (.str d.shown), h) := by
  obtain ⟨h1, h2, h3⟩ := gd_lay hm hd
  have h4 : d.shown.length ≤ sizeLine := Nat.le_trans h3 hc
  have h5 := gd_shp hm hd hp
  have h6 : okI d = true := by
    cases d with
    | int i => rcases small_int hm hd with h | h | h | h | h | h | h | h | h | h | h <;> subst h <;> decide +kernel
    | dict es => simp [gd] at hd
    | _ => rfl
  unfold reprA
  simp only [deref, h6, h5, h2, h4, Bool.and_self, decide_true, if_true]
  rfl
theorem depthAll_iff {k : Nat} : ∀ {ds : List D}, PyData.depthAll ds ≤ k ↔ ∀ d ∈ ds, PyData.depth d ≤ k
  | [] => by simp [PyData.depthAll]
  | d :: ds => by
    rw [PyData.depthAll, Nat.max_le, depthAll_iff (ds := ds)]
    simp
theorem costDs_app : ∀ (A B : List D), costDs (A ++ B) = costDs A + costDs B
  | [], B => by rw [List.nil_append, costDs, Nat.zero_add]
  | d :: A, B => by
    rw [List.cons_append, costDs, costDs, costDs_app A B]
    omega
theorem costDs_one (d : D) : costDs [d] = costD d + 2 := by rw [costDs, costDs]
theorem costDs_rev : ∀ (A : List D), costDs A.reverse = costDs A
  | [] => rfl
  | d :: A => by
    rw [List.reverse_cons, costDs_app, costDs_rev A, costDs_one, costDs]
    omega
theorem costDs_len : ∀ (A : List D), A.length ≤ costDs A
  | [] => Nat.le_refl _
  | d :: A => by
    have := costDs_len A
    rw [List.length_cons, costDs]
    omega
theorem split_at {α : Type} : ∀ {ds : List α} {i : Nat} {x : α}, ds[i]? = some x → ∃ A B, ds = A ++ x :: B ∧ A.length = i
  | [], _, _, h => by simp at h
  | d :: ds, 0, x, h => by
    cases h
    exact ⟨[], ds, rfl, rfl⟩
  | d :: ds, i + 1, x, h => by
    obtain ⟨A, B, e, l⟩ := split_at (ds := ds) (i := i) (x := x) (by simpa using h)
    exact ⟨d :: A, B, by rw [e]; rfl, by rw [List.length_cons, l]⟩
theorem split_set {α : Type} (A B : List α) (x y : α) : (A ++ x :: B).set A.length y = A ++ y :: B := by
  induction A with
  | nil => rfl
  | cons a A ih => rw [List.cons_append, List.length_cons, List.set_cons_succ, ih]; rfl
theorem split_erase {α : Type} (A B : List α) (x : α) : (A ++ x :: B).eraseIdx A.length = A ++ B := by
  induction A with
  | nil => rfl
  | cons a A ih => rw [List.cons_append, List.length_cons, List.eraseIdx_cons_succ, ih]; rfl
structure Fit (m k c : Nat) (ds : List D) : Prop where
  g : gds m ds = true
  d : PyData.depthAll ds ≤ k
  c : costDs ds ≤ c
theorem Fit.list {m k c : Nat} {ds : List D} (f : Fit m k c ds) : gd m (.list ds) = true ∧ PyData.depth (.list ds) ≤ k + 1 ∧ costD (.list ds) ≤ c + 3 := by
  refine ⟨by rw [gd]; exact f.g, ?_, ?_⟩
  · have := f.d; rw [PyData.depth]; omega
  · have := f.c; rw [costD]; omega
theorem Fit.tuple {m k c : Nat} {ds : List D} (f : Fit m k c ds) : gd m (.tuple ds) = true ∧ PyData.depth (.tuple ds) ≤ k + 1 ∧ costD (.tuple ds) ≤ c + 3 := by
  refine ⟨by rw [gd]; exact f.g, ?_, ?_⟩
  · have := f.d; rw [PyData.depth]; omega
  · have := f.c; rw [costD]; omega
theorem Fit.mid {m k c : Nat} {A B : List D} {x y : D} (f : Fit m k c (A ++ x :: B)) (hg : gd (m + 1) y = true) (hd : PyData.depth y ≤ PyData.depth x + 3) (hc : costD y ≤ 2 * costD x + 3000) : Fit (m + 1) (k + 3) (2 * c + 3000) (A ++ y :: B) := by
  have g := gds_iff.mp f.g
  have d := depthAll_iff.mp f.d
  have dx := d x (by simp)
  refine ⟨gds_iff.mpr fun z hz => ?_, depthAll_iff.mpr fun z hz => ?_, ?_⟩
  · rcases List.mem_append.mp hz with h | h
    · exact gd_up (by omega) (g z (List.mem_append_left _ h))
    · rcases List.mem_cons.mp h with h | h
      · rw [h]; exact hg
      · exact gd_up (by omega) (g z (List.mem_append_right _ (List.mem_cons_of_mem _ h)))
  · rcases List.mem_append.mp hz with h | h
    · have := d z (List.mem_append_left _ h); omega
    · rcases List.mem_cons.mp h with h | h
      · rw [h]; omega
      · have := d z (List.mem_append_right _ (List.mem_cons_of_mem _ h)); omega
  · have e := f.c
    rw [costDs_app, costDs] at e ⊢
    omega
theorem Fit.sub {m k c : Nat} {ds es : List D} (f : Fit m k c ds) (hs : ∀ z ∈ es, z ∈ ds) (hc : costDs es ≤ 2 * costDs ds + 3000) : Fit (m + 1) (k + 3) (2 * c + 3000) es := by
  have g := gds_iff.mp f.g
  have d := depthAll_iff.mp f.d
  have e := f.c
  exact ⟨gds_iff.mpr fun z hz => gd_up (by omega) (g z (hs z hz)), depthAll_iff.mpr fun z hz => by have := d z (hs z hz); omega, by omega⟩
section
variable {ρ ρ1 : DL.Env} {h h1 h2 : Hh}
theorem sIfF {t : BM} {a : SM} (e : t ρ h = some (false, h1)) : sIf t a sSkip ρ h = some (.nx ρ, h1) := by
  unfold sIf
  simp only [e, sbnd, Bool.false_eq_true, if_false, sSkip]
theorem sIt {t : BM} {a f : SM} (e : t ρ h = some (true, h1)) : sIf t a f ρ h = a ρ h1 := by
  unfold sIf
  simp only [e, sbnd, if_true]
theorem sIe {t : BM} {a f : SM} (e : t ρ h = some (false, h1)) : sIf t a f ρ h = f ρ h1 := by
  unfold sIf
  simp only [e, sbnd, Bool.false_eq_true, if_false]
theorem xIfT {t : BM} {f g : EM} {z : Option (W × Hh)} (e : t ρ h = some (true, h1)) (q : f ρ h1 = z) : fIf t f g ρ h = z := by
  unfold fIf
  simp only [e, obnd, if_true]
  exact q
theorem xIfF {t : BM} {f g : EM} {z : Option (W × Hh)} (e : t ρ h = some (false, h1)) (q : g ρ h1 = z) : fIf t f g ρ h = z := by
  unfold fIf
  simp only [e, obnd, Bool.false_eq_true, if_false]
  exact q
theorem xBh {E : EM} {b : Bool} (e : E ρ h = some (.dat (.bool b), h1)) : fB E ρ h = some (b, h1) := by
  unfold fB
  simp only [e, obnd]
theorem xNB {E : EM} {b : Bool} (e : E ρ h = some (.dat (.bool b), h1)) : bNot (fB E) ρ h = some (!b, h1) := by
  unfold bNot fB
  simp only [e, obnd]
theorem gt_i {i j : Int} : gt_W (.dat (.int i)) (.dat (.int j)) h = some (.dat (.bool (decide (j < i))), h) := by
  unfold gt_W ltW
  simp only [deref]
  rfl
theorem lt_i' {i j : Int} : lt_W (.dat (.int i)) (.dat (.int j)) h = some (.dat (.bool (decide (i < j))), h) := by
  unfold lt_W ltW
  simp only [deref]
  rfl
theorem zRt {a rest : SM} {w : W} (e : a ρ h = some (.rt w, h1)) : sSeq a rest ρ h = some (.rt w, h1) := by
  unfold sSeq
  rw [e]
theorem zNx {a rest : SM} (e : a ρ h = some (.nx ρ1, h1)) : sSeq a rest ρ h = rest ρ1 h1 := by
  unfold sSeq
  rw [e]
theorem isi_d {m i : Nat} {ts : List String} {d : D} (e : fVar i ρ h = some (.dat d, h)) (nd : gd m d = true) : f1 (isiW ts) (fVar i) ρ h = some (.dat (.bool (ts.any fun t => isT1 t d)), h) := by
  unfold f1
  simp only [e, obnd]
  unfold isiW
  cases d with
  | dict es => simp [gd] at nd
  | _ => rfl
theorem idxW_lst {x : List D} {i : Int} {d : D} (a : L2.atI x i = some d) : idxW (.dat (.list x)) (.dat (.int i)) h = some (.dat d, h) := by
  unfold idxW
  simp only [deref, a]
  rfl
end
theorem drawn {xs : List D} {E : EM} {ρ : DL.Env} {b c : Nat} {h : Hh} {n : Int} (hb : BoxAt h b c) (hc : c < 100000000) (he : E ρ h = some (.dat (.list xs), h)) (h0 : fVar 0 ρ h = some (.ref b, h)) (hn : (xs.length : Int) = n) (n0 : 0 < n) (n1 : n ≤ 1000) :
    ∃ d h', f2 idxW E (fA (m__law_take) (fCons (fVar 0) (fCons (fC (.int n)) (fNil)))) ρ h = some (.dat d, h') ∧ d ∈ xs ∧ BoxAt h' b (c + 1) ∧ Only b h h' := by
  obtain ⟨r, h', e, r0, r1, b1, o1⟩ := take_ok (n := n) hb (by omega) n0 (by omega)
  have hr : r.toNat < xs.length := by omega
  have er : L2.atI xs r = some xs[r.toNat] := by
    have := atI_nat (xs := xs) (j := r.toNat) (List.getElem?_eq_getElem hr)
    rwa [show ((r.toNat : Nat) : Int) = r by omega] at this
  exact ⟨_, h', x2 (f := idxW) he (xA (xC h0 (xC (E := fC (.int n)) rfl xN)) e) (idxW_lst er), List.getElem_mem hr, b1, o1⟩
def oddA : List D := [.none, .bool true, .int 0, .int 1, .int (-1), .str "", .str "a", .str "A", .str "a b", .str "abcdefg", .str "a1", .tuple [], .list [], .tuple [.str "a"], .list [.str "a"], .tuple [.str "a", .str "a"], .tuple [.str "a", .str "b"]]
def oddB : List D := [.tuple [.tuple [.str "a", .str "a"]], .list [.tuple [.str "a", .str "a"]], .tuple [.tuple [.str "a", .str "b"]], .tuple [.tuple []]]
theorem odd_fit : ∀ d ∈ oddA ++ oddB, gd 21 d = true ∧ PyData.depth d ≤ 2 ∧ costD d ≤ 1000 := by
  have key : ((oddA ++ oddB).all fun d => gd 21 d && decide (PyData.depth d ≤ 2) && decide (costD d ≤ 1000)) = true := by decide +kernel
  intro d hd
  have := List.all_eq_true.mp key d hd
  simp only [Bool.and_eq_true, decide_eq_true_eq] at this
  exact ⟨this.1.1, this.1.2, this.2⟩
theorem odd_ok {h : Hh} {b c : Nat} (hb : BoxAt h b c) (hc : c < 100000000) : ∃ d h', m__law_odd [.ref b] h = some (.dat d, h') ∧ d ∈ oddA ++ oddB ∧ BoxAt h' b (c + 1) ∧ Only b h h' := by
  have hz : sizeLine = 16777216 := rfl
  have e1 : f2 (addW false) (fVar 1) (fA (lstW false) (fCons (fA tupW (fCons (fA tupW (fCons (fC (.str "a")) (fCons (fC (.str "a")) (fNil)))) (fNil))) (fCons (fA (lstW false) (fCons (fA tupW (fCons (fC (.str "a")) (fCons (fC (.str "a")) (fNil)))) (fNil))) (fCons (fA tupW (fCons (fA tupW (fCons (fC (.str "a")) (fCons (fC (.str "b")) (fNil)))) (fNil))) (fCons (fA tupW (fCons (fA tupW (fNil)) (fNil))) (fNil)))))) [some (.ref b), some (.dat (.list oddA))] h = some (.dat (.list (oddA ++ oddB)), h) := rfl
  obtain ⟨d, h', e, hd, b1, o1⟩ := drawn (ρ := [some (.ref b), some (.dat (.list oddA))]) (n := 21) hb hc e1 rfl rfl (by omega) (by omega)
  refine ⟨d, h', ?_, hd, b1, o1⟩
  unfold m__law_odd
  refine fnM_rt (h' := h') (w := .dat d) ?_ rfl (leave_dat' hb b1 o1)
  refine (zA (ρ1 := [some (.ref b), some (.dat (.list oddA))]) (w := .dat (.list oddA)) (h1 := h) rfl rfl).trans ?_
  exact zR e
theorem asc {m : Nat} {s : Str} (h : gd m (.str s) = true) : s.cps.toList.length ≤ m ∧ ∀ c ∈ s.cps.toList, c < 128 := by
  rw [gd] at h
  simp only [Bool.and_eq_true, decide_eq_true_eq, List.all_eq_true] at h
  refine ⟨?_, fun c hc => h.2 c hc⟩
  have := h.1
  rwa [show s.length = s.cps.toList.length from by rw [Array.length_toList]; rfl] at this
theorem gd_of {m : Nat} {s : Str} (h1 : s.cps.toList.length ≤ m) (h2 : ∀ c ∈ s.cps.toList, c < 128) : gd m (.str s) = true := by
  rw [gd]
  simp only [Bool.and_eq_true, decide_eq_true_eq, List.all_eq_true]
  refine ⟨?_, fun c hc => h2 c hc⟩
  rwa [show s.length = s.cps.toList.length from by rw [Array.length_toList]; rfl]
theorem cps_app (s t : Str) : (s ++ t).cps.toList = s.cps.toList ++ t.cps.toList := by
  show (s.cps ++ t.cps).toList = _
  rw [Array.toList_append]
theorem gd_app {m : Nat} {s t : Str} (h : gd m (.str s) = true) (h1 : t.cps.toList.length ≤ 1) (h2 : ∀ c ∈ t.cps.toList, c < 128) : gd (m + 1) (.str (s ++ t)) = true := by
  obtain ⟨a1, a2⟩ := asc h
  refine gd_of (by rw [cps_app, List.length_append]; omega) fun c hc => ?_
  rw [cps_app] at hc
  exact (List.mem_append.mp hc).elim (a2 c) (h2 c)
theorem gd_cut {m : Nat} {s : Str} (h : gd m (.str s) = true) (lo hi : Option Int) : gd (m + 1) (.str (cutS s lo hi)) = true := by
  obtain ⟨a1, a2⟩ := asc h
  have e : (cutS s lo hi).cps.toList = (s.cps.toList.drop (HT.sIx s.length 0 lo)).take (HT.sIx s.length s.length hi - HT.sIx s.length 0 lo) := rfl
  refine gd_of ?_ fun c hc => ?_
  · rw [e, List.length_take, List.length_drop]; omega
  · rw [e] at hc
    exact a2 c (List.mem_of_mem_drop (List.mem_of_mem_take hc))
theorem gd_rev {m : Nat} {s : Str} (h : gd m (.str s) = true) : gd (m + 1) (.str (revS s)) = true := by
  obtain ⟨a1, a2⟩ := asc h
  have e : (revS s).cps.toList = s.cps.toList.reverse := rfl
  refine gd_of ?_ fun c hc => ?_
  · rw [e, List.length_reverse]; omega
  · rw [e] at hc
    exact a2 c (List.mem_reverse.mp hc)
theorem gd_upper {m : Nat} {s : Str} (h : gd m (.str s) = true) : gd (m + 1) (.str (Txt.upper s)) = true := by
  obtain ⟨a1, a2⟩ := asc h
  have e : (Txt.upper s).cps.toList = s.cps.toList.map PyProof.Rows.up1 := by
    rw [PyProof.Rows.upper_ascii a2]
    exact Array.toList_map
  refine gd_of ?_ fun c hc => ?_
  · rw [e, List.length_map]; omega
  · rw [e] at hc
    obtain ⟨x, hx, rfl⟩ := List.mem_map.mp hc
    have := a2 x hx
    unfold PyProof.Rows.up1
    split <;> omega
theorem cost_str {m : Nat} {s : Str} (h : gd m (.str s) = true) (hm : m ≤ 100) : costD (.str s) ≤ 1002 := by
  obtain ⟨a1, a2⟩ := asc h
  rw [costD, show s.length = s.cps.toList.length from by rw [Array.length_toList]; rfl]
  omega
theorem gd_num {m : Nat} {i : Int} (hm : m ≤ 25) (h0 : 20 ≤ m) (h : gd m (.int i) = true) : gd (m + 1) (.str (toString i : String)) = true ∧ i.natAbs.log2 < 1920 := by
  have key : ∀ j : Int, (j = -5 ∨ j = -4 ∨ j = -3 ∨ j = -2 ∨ j = -1 ∨ j = 0 ∨ j = 1 ∨ j = 2 ∨ j = 3 ∨ j = 4 ∨ j = 5) → gd 20 (.str (toString j : String)) = true ∧ j.natAbs.log2 < 1920 := fun j hj => by
    rcases hj with h | h | h | h | h | h | h | h | h | h | h <;> subst h <;> exact ⟨by decide +kernel, by decide +kernel⟩
  obtain ⟨k1, k2⟩ := key i (small_int hm h)
  exact ⟨gd_up (by omega) k1, k2⟩
noncomputable def otT1 : BM := (bAnd (fB (f1 (isiW ["list", "tuple"]) (fVar 1))) (bAnd (fB (f2 gt_W (fA lenW (fCons (fVar 1) (fNil))) (fC (.int 0)))) (fB (f2 gt_W (fA (m__law_take) (fCons (fVar 0) (fCons (fC (.int 6)) (fNil)))) (fC (.int 0))))))
noncomputable def otT2 : BM := (bAnd (fB (f1 (isiW ["int"]) (fVar 1))) (bAnd (bNot (fB (f1 (isiW ["bool"]) (fVar 1)))) (fB (f2 gt_W (fA (m__law_take) (fCons (fVar 0) (fCons (fC (.int 4)) (fNil)))) (fC (.int 0))))))
noncomputable def otT3 : BM := (bAnd (fB (f1 (isiW ["str"]) (fVar 1))) (fB (f2 gt_W (fA (m__law_take) (fCons (fVar 0) (fCons (fC (.int 4)) (fNil)))) (fC (.int 0)))))
noncomputable def otC (n : Nat) : SM := (sIf (fB (f2 lt_W (fVar 3) (fC (.int 6)))) (sSub (fA (m__law_otherwise n) (fCons (fVar 0) (fCons (f2 idxW (fVar 1) (fVar 2)) (fNil)))) (fVar 4) (fVar 2)) (sIf (fB (f2 (eqW false) (fVar 3) (fC (.int 6)))) (sExpr (fM isL popAtW (fVar 4) (fCons (fVar 2) (fNil)))) (sIf (fB (f2 (eqW false) (fVar 3) (fC (.int 7)))) (sExpr (fM isL insertW (fVar 4) (fCons (fVar 2) (fCons (f2 idxW (fVar 1) (fVar 2)) (fNil))))) (sIf (fB (f2 (eqW false) (fVar 3) (fC (.int 8)))) (sExpr (fM isL reverseW (fVar 4) fNil)) (sRet (fIf (fB (f1 (isiW ["tuple"]) (fVar 1))) (fVar 4) (fA tupleW (fCons (fVar 4) (fNil)))))))))
noncomputable def otA (n : Nat) : SM := (sSeq (sPar (fCons (fA (m__law_take) (fCons (fVar 0) (fCons (fA lenW (fCons (fVar 1) (fNil))) (fNil)))) (fCons (fA (m__law_take) (fCons (fVar 0) (fCons (fC (.int 10)) (fNil)))) (fCons (fA (listW true) (fCons (fVar 1) (fNil))) (fNil)))) [2, 3, 4])
    (sSeq (otC n)
    (sFrz 4 (sRet (fIf (fB (f1 (isiW ["list"]) (fVar 1))) (fVar 4) (fA tupleW (fCons (fVar 4) (fNil))))))))
noncomputable def otI : EM := (f2 idxW (fA (lstW false) (fCons (f2 (addW false) (fVar 1) (fC (.int 1))) (fCons (f2 subW (fVar 1) (fC (.int 1))) (fCons (fC (.int 0)) (fCons (fNeg (fVar 1)) (fCons (f2 (eqW false) (fVar 1) (fC (.int 1))) (fCons (fA strIW (fCons (fVar 1) (fNil))) (fCons (fC .none) (fNil))))))))) (fA (m__law_take) (fCons (fVar 0) (fCons (fC (.int 7)) (fNil)))))
noncomputable def otS : EM := (f2 idxW (fA (lstW false) (fCons (f2 (addW false) (fVar 1) (fC (.str "s"))) (fCons (fSl false (fVar 1) (oSome (fC (.int 1))) (oNone)) (fCons (fUp (fVar 1)) (fCons (f2 (addW false) (fVar 1) (fC (.str " "))) (fCons (fA tupW (fCons (fVar 1) (fNil))) (fCons (fRev false (fVar 1)) (fNil)))))))) (fA (m__law_take) (fCons (fVar 0) (fCons (fC (.int 6)) (fNil)))))
theorem other_eq (n : Nat) : m__law_otherwise (n + 1) = fnM false 2 5 (sSeq (sIf otT1 (otA n) (sSkip)) (sSeq (sIf otT2 (sRet otI) (sSkip)) (sSeq (sIf otT3 (sRet otS) (sSkip)) (sRet (fA (m__law_odd) (fCons (fVar 0) (fNil))))))) := rfl
structure Ot (m : Nat) (d d' : D) : Prop where
  g : gd (m + 1) d' = true
  dep : PyData.depth d' ≤ PyData.depth d + 3
  c : costD d' ≤ 2 * costD d + 3000
theorem Ot.odd {m : Nat} {d x : D} (hm : 20 ≤ m) (h : x ∈ oddA ++ oddB) : Ot m d x := by
  obtain ⟨a, b, c⟩ := odd_fit x h
  exact ⟨gd_up (by omega) a, by omega, by omega⟩
abbrev e0t (b : Nat) (d : D) : DL.Env := [some (.ref b), some (.dat d), none, none, none]
section
variable {b c m : Nat} {d : D} {h : Hh}
theorem take_gt {n : Int} (hb : BoxAt h b c) (hc : c < 100000000) (n0 : 0 < n) (n1 : n ≤ 1000) : ∃ t h', fB (f2 gt_W (fA (m__law_take) (fCons (fVar 0) (fCons (fC (.int n)) (fNil)))) (fC (.int 0))) (e0t b d) h = some (t, h') ∧ BoxAt h' b (c + 1) ∧ Only b h h' := by
  obtain ⟨r, h', e, _, _, b1, o1⟩ := take_ok (n := n) hb (by omega) n0 (by omega)
  exact ⟨_, h', xBh (x2 (f := gt_W) (xA (xC (E := fVar 0) rfl (xC (E := fC (.int n)) rfl xN)) e) (B := fC (.int 0)) rfl gt_i), b1, o1⟩
theorem isi1 {ts : List String} (nd : gd m d = true) {g : Hh} : fB (f1 (isiW ts) (fVar 1)) (e0t b d) g = some (ts.any fun t => isT1 t d, g) := xBh (isi_d rfl nd)
theorem fall_odd {n : Nat} {g1 g2 g3 : Hh} (hb : BoxAt h b c) (hc : c < 1000000) (hm : 20 ≤ m) (e1 : otT1 (e0t b d) h = some (false, g1)) (e2 : otT2 (e0t b d) g1 = some (false, g2)) (e3 : otT3 (e0t b d) g2 = some (false, g3)) (b3 : BoxAt g3 b (c + 3)) (o3 : Only b h g3) :
    ∃ d' h', m__law_otherwise (n + 1) [.ref b, .dat d] h = some (.dat d', h') ∧ Ot m d d' ∧ BoxAt h' b (c + 10 * (n + 1)) ∧ Only b h h' := by
  obtain ⟨x, h', e, hx, b4, o4⟩ := odd_ok b3 (by omega)
  have oo := o3.trans o4
  refine ⟨x, h', ?_, Ot.odd hm hx, b4.mono (by omega), oo⟩
  rw [other_eq]
  refine fnM_rt (h' := h') (w := .dat x) ?_ rfl (leave_dat' hb b4 oo)
  show sSeq _ _ (e0t b d) h = _
  refine (zNx (sIfF e1)).trans ((zNx (sIfF e2)).trans ((zNx (sIfF e3)).trans ?_))
  exact zR (xA (xC (E := fVar 0) rfl xN) e)
end
theorem other_leaf {n b c m : Nat} {d : D} {h : Hh} (hb : BoxAt h b c) (hc : c < 1000000) (hm : 20 ≤ m) (hm2 : m ≤ 24) (nd : gd m d = true) (nl : isT1 "list" d = false ∧ isT1 "tuple" d = false) :
    ∃ d' h', m__law_otherwise (n + 1) [.ref b, .dat d] h = some (.dat d', h') ∧ Ot m d d' ∧ BoxAt h' b (c + 10 * (n + 1)) ∧ Only b h h' := by
  have hz : sizeLine = 16777216 := rfl
  have t1 : otT1 (e0t b d) h = some (false, h) := bAndF ((isi1 nd).trans (by rw [List.any_cons, List.any_cons, List.any_nil, nl.1, nl.2]; rfl))
  have b0 : BoxAt h b (c + 3) := hb.mono (by omega)
  cases d with
  | none => exact fall_odd hb hc hm t1 (bAndF (isi1 nd)) (bAndF (isi1 nd)) b0 (Only.refl b h)
  | bool z =>
    refine fall_odd hb hc hm t1 (bAndT (isi1 nd) (bAndF ?_)) (bAndF (isi1 nd)) b0 (Only.refl b h)
    exact xNB (b := true) (isi_d rfl nd)
  | dict es => simp [gd] at nd
  | list ds => exact absurd (show isT1 "list" (.list ds) = true from rfl) (by rw [nl.1]; decide)
  | tuple ds => exact absurd (show isT1 "tuple" (.tuple ds) = true from rfl) (by rw [nl.2]; decide)
  | int i =>
    obtain ⟨t, g, et, b1, o1⟩ := take_gt (d := .int i) (n := 4) hb (by omega) (by omega) (by omega)
    have t2 : otT2 (e0t b (.int i)) h = some (t, g) := bAndT (isi1 nd) (bAndT (xNB (b := false) (isi_d rfl nd)) et)
    cases t with
    | false => exact fall_odd hb hc hm t1 t2 (bAndF (isi1 nd)) (b1.mono (by omega)) o1
    | true =>
      obtain ⟨gs, lg⟩ := gd_num (by omega) hm nd
      let L7 : List D := [.int (i + 1), .int (i - 1), .int 0, .int (-i), .bool (decide (i = 1)), .str (toString i : String), .none]
      have eL : fA (lstW false) (fCons (f2 (addW false) (fVar 1) (fC (.int 1))) (fCons (f2 subW (fVar 1) (fC (.int 1))) (fCons (fC (.int 0)) (fCons (fNeg (fVar 1)) (fCons (f2 (eqW false) (fVar 1) (fC (.int 1))) (fCons (fA strIW (fCons (fVar 1) (fNil))) (fCons (fC .none) (fNil)))))))) (e0t b (.int i)) g = some (.dat (.list L7), g) := by
        have si : strIW [.dat (.int i)] g = some (.dat (.str (toString i : String)), g) := by
          unfold strIW
          dsimp only
          rw [if_pos lg]; rfl
        exact xA (xC (x2 (A := fVar 1) (B := fC (.int 1)) rfl rfl add_i) (xC (x2 (A := fVar 1) (B := fC (.int 1)) rfl rfl sub_i) (xC (E := fC (.int 0)) rfl (xC (E := fNeg (fVar 1)) (w := .dat (.int (-i))) rfl (xC (x2 (A := fVar 1) (B := fC (.int 1)) rfl rfl (eq_i rfl)) (xC (xA (xC (E := fVar 1) rfl xN) si) (xC (E := fC .none) rfl xN))))))) (xLst (ds := L7) rfl (by show 7 ≤ sizeLine; omega))
      obtain ⟨x, h', e, hx, b2, o2⟩ := drawn (ρ := e0t b (.int i)) (xs := L7) (n := 7) b1 (by omega) eL rfl rfl (by omega) (by omega)
      have oo := o1.trans o2
      refine ⟨x, h', ?_, ?_, b2.mono (by omega), oo⟩
      · rw [other_eq]
        refine fnM_rt (h' := h') (w := .dat x) ?_ rfl (leave_dat' hb b2 oo)
        show sSeq _ _ (e0t b (.int i)) h = _
        exact (zNx (sIfF t1)).trans (zRt ((sIt t2).trans (zR e)))
      · have ni : i.natAbs + 20 ≤ m := by rw [gd, decide_eq_true_eq] at nd; exact nd
        have gi : ∀ j : Int, j.natAbs ≤ i.natAbs + 1 → Ot m (.int i) (.int j) := fun j hj => ⟨by rw [gd, decide_eq_true_eq]; omega, by show 0 ≤ _; omega, by show 5 ≤ _; omega⟩
        simp only [L7, List.mem_cons, List.not_mem_nil, or_false] at hx
        rcases hx with rfl | rfl | rfl | rfl | rfl | rfl | rfl
        · exact gi _ (by omega)
        · exact gi _ (by omega)
        · exact gi _ (by omega)
        · exact gi _ (by omega)
        · exact ⟨by rw [gd], by show 0 ≤ _; omega, by show 5 ≤ _; omega⟩
        · exact ⟨gs, by show 0 ≤ _; omega, by have := cost_str gs (by omega); omega⟩
        · exact ⟨by rw [gd], by show 0 ≤ _; omega, by show 5 ≤ _; omega⟩
  | str s =>
    obtain ⟨t, g, et, b1, o1⟩ := take_gt (d := .str s) (n := 4) hb (by omega) (by omega) (by omega)
    have t2 : otT2 (e0t b (.str s)) h = some (false, h) := bAndF (isi1 nd)
    have t3 : otT3 (e0t b (.str s)) h = some (t, g) := bAndT (isi1 nd) et
    cases t with
    | false => exact fall_odd hb hc hm t1 t2 t3 (b1.mono (by omega)) o1
    | true =>
      obtain ⟨a1, a2⟩ := asc nd
      have sl : s.length = s.cps.toList.length := by rw [Array.length_toList]; rfl
      let L6 : List D := [.str (s ++ ("s" : Str)), .str (cutS s (some 1) none), .str (Txt.upper s), .str (s ++ (" " : Str)), .tuple [.str s], .str (revS s)]
      have eL : fA (lstW false) (fCons (f2 (addW false) (fVar 1) (fC (.str "s"))) (fCons (fSl false (fVar 1) (oSome (fC (.int 1))) (oNone)) (fCons (fUp (fVar 1)) (fCons (f2 (addW false) (fVar 1) (fC (.str " "))) (fCons (fA tupW (fCons (fVar 1) (fNil))) (fCons (fRev false (fVar 1)) (fNil))))))) (e0t b (.str s)) g = some (.dat (.list L6), g) := by
        have ad : ∀ t : Str, t.length ≤ 1 → addW false (.dat (.str s)) (.dat (.str t)) g = some (.dat (.str (s ++ t)), g) := fun t ht => by
          unfold addW
          simp only [deref]
          rw [if_pos (by omega)]; rfl
        have cu : fSl false (fVar 1) (oSome (fC (.int 1))) (oNone) (e0t b (.str s)) g = some (.dat (.str (cutS s (some 1) none)), g) := by
          show cutW false (.dat (.str s)) (some 1) none g = _
          unfold cutW
          simp only [deref]
          rw [if_pos (by omega)]; rfl
        have up : fUp (fVar 1) (e0t b (.str s)) g = some (.dat (.str (Txt.upper s)), g) := by
          show (if s.length ≤ 5592405 then ok (.str (Txt.upper s)) g else none) = _
          rw [if_pos (by omega)]; rfl
        have re : fRev false (fVar 1) (e0t b (.str s)) g = some (.dat (.str (revS s)), g) := by
          show backW false (.dat (.str s)) g = _
          unfold backW
          dsimp only
          rw [if_pos (by omega)]
        exact xA (xC (x2 (f := addW false) (A := fVar 1) (B := fC (.str "s")) rfl rfl (ad _ (by decide))) (xC cu (xC up (xC (x2 (f := addW false) (A := fVar 1) (B := fC (.str " ")) rfl rfl (ad _ (by decide))) (xC (xA (xC (E := fVar 1) rfl xN) (xTp (ds := [.str s]) rfl (by show 1 ≤ sizeLine; omega))) (xC re xN)))))) (xLst (ds := L6) rfl (by show 6 ≤ sizeLine; omega))
      obtain ⟨x, h', e, hx, b2, o2⟩ := drawn (ρ := e0t b (.str s)) (xs := L6) (n := 6) b1 (by omega) eL rfl rfl (by omega) (by omega)
      have oo := o1.trans o2
      refine ⟨x, h', ?_, ?_, b2.mono (by omega), oo⟩
      · rw [other_eq]
        refine fnM_rt (h' := h') (w := .dat x) ?_ rfl (leave_dat' hb b2 oo)
        show sSeq _ _ (e0t b (.str s)) h = _
        exact (zNx (sIfF t1)).trans ((zNx (sIfF t2)).trans (zRt ((sIt t3).trans (zR e))))
      · have gs : ∀ u : Str, gd (m + 1) (.str u) = true → Ot m (.str s) (.str u) := fun u hu => ⟨hu, by show 0 ≤ _; omega, by have := cost_str hu (by omega); omega⟩
        simp only [L6, List.mem_cons, List.not_mem_nil, or_false] at hx
        rcases hx with rfl | rfl | rfl | rfl | rfl | rfl
        · exact gs _ (gd_app nd (by decide) (by decide))
        · exact gs _ (gd_cut nd _ _)
        · exact gs _ (gd_upper nd)
        · exact gs _ (gd_app nd (by decide) (by decide))
        · have cs := cost_str nd (by omega)
          refine ⟨?_, by show 1 + 0 ≤ _; omega, ?_⟩
          · rw [gd, gds, gds, gd_up (by omega) nd]; rfl
          · rw [show costD (.tuple [.str s]) = costDs [.str s] + 3 from by rw [costD], costDs_one]; omega
        · exact gs _ (gd_rev nd)
section
variable {ρ : DL.Env} {h h1 : Hh}
theorem xM {sem : W → List W → Hh → Option (W × Hh)} {A : EM} {ga : AM} {n : Nat} {ds : List D} {ws : List W} {r : Option (W × Hh)} (ha : A ρ h = some (.ref n, h)) (hn : h[n]? = some (some (.lst ds))) (ea : ga ρ h = some (ws, h)) (q : sem (.ref n) ws h = r) : fM isL sem A ga ρ h = r := by
  have il : isL (.ref n) h = true := by
    unfold isL
    simp only [deref, hn]
  unfold fM
  simp only [ha, obnd, il, if_true, ea, q]
theorem zEx' {E : EM} {w : W} (he : E ρ h = some (w, h1)) : sExpr E ρ h = some (.nx ρ, h1) := by
  unfold sExpr
  simp only [he, sbnd]
end
abbrev e5t (b : Nat) (x : D) (at_ turn : Int) (n : Nat) : DL.Env := [some (.ref b), some (.dat x), some (.dat (.int at_)), some (.dat (.int turn)), some (.ref n)]
theorem idx_seq {x : D} {ds : List D} {i : Int} {d : D} {h : Hh} (hx : IsSeq x ds) (a : L2.atI ds i = some d) : idxW (.dat x) (.dat (.int i)) h = some (.dat d, h) := by
  rcases hx with rfl | rfl
  · exact idxW_lst a
  · unfold idxW
    simp only [deref, a]
    rfl
theorem only_one {b : Nat} {g h' : Hh} {o : Option MO} (hb : b < g.length) (x : Only b (g ++ [o]) h') : ∃ g' : Hh, h' = g' ++ [o] ∧ Only b g g' := by
  obtain ⟨q, g', e, l⟩ := only_app hb x
  refine ⟨g', e, ?_⟩
  rw [e, ← l, List.take_left] at q
  exact q
theorem box_one {g l : Hh} {b c : Nat} (x : BoxAt g b c) : BoxAt (g ++ l) b c := by
  have lt := x.lt
  obtain ⟨d, s, k, e, r⟩ := x
  exact ⟨d, s, k, by rw [List.getElem?_append_left lt]; exact e, r⟩
theorem box_bk {g l : Hh} {b c : Nat} (lt : b < g.length) (x : BoxAt (g ++ l) b c) : BoxAt g b c := by
  obtain ⟨d, s, k, e, r⟩ := x
  exact ⟨d, s, k, by rw [List.getElem?_append_left lt] at e; exact e, r⟩
theorem otC_ok {n m b c : Nat} {x : D} {ds : List D} {at_ turn : Int} {g : Hh} (ih : ∀ {d : D} {h : Hh} {c : Nat}, PyData.depth d < n → gd m d = true → costD d ≤ 1000000 → BoxAt h b c → c + 10 * n ≤ 900000 → ∃ d' h', m__law_otherwise n [.ref b, .dat d] h = some (.dat d', h') ∧ Ot m d d' ∧ BoxAt h' b (c + 10 * n) ∧ Only b h h')
    (hx : IsSeq x ds) (f : Fit m (PyData.depthAll ds) (costDs ds) ds) (hd : PyData.depthAll ds < n) (hcs : costDs ds ≤ 1000000) (hb : BoxAt g b c) (hc : c + 10 * n ≤ 900000) (a0 : 0 ≤ at_) (a1 : at_.toNat < ds.length) (t0 : 0 ≤ turn) (t9 : turn < 9) :
    ∃ ds' g', otC n (e5t b x at_ turn g.length) (g ++ [some (.lst ds)]) = some (.nx (e5t b x at_ turn g.length), g' ++ [some (.lst ds')]) ∧ Fit (m + 1) (PyData.depthAll ds + 3) (2 * costDs ds + 3000) ds' ∧ BoxAt g' b (c + 10 * n) ∧ Only b g g' := by
  have hz : sizeLine = 16777216 := rfl
  have dl := costDs_len ds
  have lb := hb.lt
  obtain ⟨y, ey⟩ : ∃ y, ds[at_.toNat]? = some y := ⟨_, List.getElem?_eq_getElem a1⟩
  have ai : L2.atI ds at_ = some y := by
    have := atI_nat (xs := ds) (j := at_.toNat) ey
    rwa [show ((at_.toNat : Nat) : Int) = at_ by omega] at this
  obtain ⟨A, B, eds, lA⟩ := split_at ey
  have hn : (g ++ [some (MO.lst ds)])[g.length]? = some (some (.lst ds)) := app_get rfl
  have la : lstAt (g ++ [some (MO.lst ds)]) g.length = some ds := by
    unfold lstAt
    rw [hn]
  have st : ∀ es : List D, (g ++ [some (MO.lst ds)]).set g.length (some (.lst es)) = g ++ [some (.lst es)] := fun es => app_set rfl
  have ix : f2 idxW (fVar 1) (fVar 2) (e5t b x at_ turn g.length) (g ++ [some (.lst ds)]) = some (.dat y, g ++ [some (.lst ds)]) := x2 (f := idxW) (A := fVar 1) (B := fVar 2) rfl rfl (idx_seq hx ai)
  have b10 : BoxAt g b (c + 10 * n) := hb.mono (by omega)
  have sub : ∀ (es : List D), (∀ z ∈ es, z ∈ ds) → costDs es ≤ 2 * costDs ds + 3000 → Fit (m + 1) (PyData.depthAll ds + 3) (2 * costDs ds + 3000) es := fun es hs hc => f.sub hs hc
  have cds : costDs ds = costDs A + (costD y + 2 + costDs B) := by rw [eds, costDs_app, costDs]
  unfold otC
  by_cases c6 : turn < 6
  · have t1 : fB (f2 lt_W (fVar 3) (fC (.int 6))) (e5t b x at_ turn g.length) (g ++ [some (.lst ds)]) = some (true, g ++ [some (.lst ds)]) := by
      refine xBh (x2 (f := lt_W) (A := fVar 3) (B := fC (.int 6)) rfl rfl ?_)
      rw [lt_i', decide_eq_true c6]
    have my : y ∈ ds := List.mem_of_getElem? ey
    have gy : gd m y = true := gds_iff.mp f.g y my
    have dy : PyData.depth y ≤ PyData.depthAll ds := depthAll_iff.mp f.d y my
    obtain ⟨y', h', e, oy, by', oo⟩ := ih (d := y) (h := g ++ [some (.lst ds)]) (c := c) (by omega) gy (by omega) (box_one hb) hc
    obtain ⟨g', rfl, og⟩ := only_one lb oo
    have gl : g'.length = g.length := og.len
    have hn' : (g' ++ [some (MO.lst ds)])[g.length]? = some (some (.lst ds)) := app_get gl
    have la' : lstAt (g' ++ [some (MO.lst ds)]) g.length = some ds := by
      unfold lstAt
      rw [hn']
    have xi : ixN ds.length at_ = some at_.toNat := by
      unfold ixN
      split <;> first | rfl | omega | (simp; omega)
    have sw : setW (.ref g.length) (.dat (.int at_)) (.dat y') (g' ++ [some (.lst ds)]) = some (g' ++ [some (.lst (A ++ y' :: B))]) := by
      unfold setW
      simp only [la', xi]
      rw [app_set gl, ← lA]
      conv => lhs; rw [eds]
      rw [split_set]
    refine ⟨A ++ y' :: B, g', ?_, ?_, box_bk (by omega) by', og⟩
    · rw [sIt t1]
      unfold sSub
      rw [xA (xC (E := fVar 0) (w := .ref b) rfl (xC ix xN)) e]
      simp only [sbnd_some]
      rw [show fVar 4 (e5t b x at_ turn g.length) (g' ++ [some (.lst ds)]) = some (.ref g.length, g' ++ [some (.lst ds)]) from rfl]
      simp only [sbnd_some]
      rw [show fVar 2 (e5t b x at_ turn g.length) (g' ++ [some (.lst ds)]) = some (.dat (.int at_), g' ++ [some (.lst ds)]) from rfl]
      simp only [sbnd_some, sw]
    · have f' := f
      rw [eds] at f' ⊢
      exact f'.mid oy.g oy.dep oy.c
  · have t1 : fB (f2 lt_W (fVar 3) (fC (.int 6))) (e5t b x at_ turn g.length) (g ++ [some (.lst ds)]) = some (false, g ++ [some (.lst ds)]) := by
      refine xBh (x2 (f := lt_W) (A := fVar 3) (B := fC (.int 6)) rfl rfl ?_)
      rw [lt_i', decide_eq_false c6]
    have tq : ∀ (k : Int) (z : Bool), decide (turn = k) = z → fB (f2 (eqW false) (fVar 3) (fC (.int k))) (e5t b x at_ turn g.length) (g ++ [some (.lst ds)]) = some (z, g ++ [some (.lst ds)]) := fun k z e => xBh (x2 (f := eqW false) (A := fVar 3) (B := fC (.int k)) rfl rfl (eq_i e))
    rw [sIe t1]
    by_cases c7 : turn = 6
    · refine ⟨A ++ B, g, ?_, ?_, b10, Only.refl b g⟩
      · rw [sIt (tq 6 true (decide_eq_true c7))]
        refine zEx' (w := .dat y) (xM (n := g.length) rfl hn (xC (E := fVar 2) rfl xN) ?_)
        unfold popAtW
        simp only [la]
        rw [if_pos ⟨a0, by omega⟩]
        simp only [ey]
        unfold setL
        rw [app_set rfl, ← lA]
        conv => lhs; rw [eds]
        rw [split_erase]
      · refine sub _ (fun z hz => ?_) (by rw [costDs_app]; omega)
        rw [eds]
        rcases List.mem_append.mp hz with h | h
        · exact List.mem_append_left _ h
        · exact List.mem_append_right _ (List.mem_cons_of_mem _ h)
    · rw [sIe (tq 6 false (decide_eq_false c7))]
      by_cases c8 : turn = 7
      · refine ⟨ds.take at_.toNat ++ [y] ++ ds.drop at_.toNat, g, ?_, ?_, b10, Only.refl b g⟩
        · rw [sIt (tq 7 true (decide_eq_true c8))]
          refine zEx' (w := .dat .none) (xM (n := g.length) rfl hn (xC (E := fVar 2) rfl (xC ix xN)) ?_)
          unfold insertW
          simp only [la]
          rw [if_pos ⟨by omega, a0, by omega⟩]
          unfold setL
          rw [app_set rfl]
        · have et : ds.take at_.toNat = A := by rw [← lA, eds, List.take_left]
          have ed : ds.drop at_.toNat = y :: B := by rw [← lA, eds, List.drop_left]
          rw [et, ed]
          refine sub _ (fun z hz => ?_) (by rw [costDs_app, costDs_app, costDs_one, costDs]; omega)
          rw [eds]
          rcases List.mem_append.mp hz with h | h
          · rcases List.mem_append.mp h with h | h
            · exact List.mem_append_left _ h
            · rw [List.mem_singleton] at h
              rw [h]; simp
          · exact List.mem_append_right _ h
      · rw [sIe (tq 7 false (decide_eq_false c8))]
        have c9 : turn = 8 := by omega
        refine ⟨ds.reverse, g, ?_, ?_, b10, Only.refl b g⟩
        · rw [sIt (tq 8 true (decide_eq_true c9))]
          refine zEx' (w := .dat .none) (xM (n := g.length) rfl hn xN ?_)
          unfold reverseW
          simp only [la]
          unfold setL
          rw [app_set rfl]
        · exact sub _ (fun z hz => List.mem_reverse.mp hz) (by rw [costDs_rev]; omega)
theorem seq_has {x : D} {ds : List D} (hx : IsSeq x ds) : ([("list" : String), "tuple"].any fun t => isT1 t x) = true ∧ (["int"].any fun t => isT1 t x) = false ∧ (["str"].any fun t => isT1 t x) = false ∧ PyData.depth x = PyData.depthAll ds + 1 ∧ costD x = costDs ds + 3 ∧ ∀ m, gd m x = gds m ds := by
  rcases hx with rfl | rfl
  · exact ⟨rfl, rfl, rfl, by rw [PyData.depth], by rw [costD], fun m => by rw [gd]⟩
  · exact ⟨rfl, rfl, rfl, by rw [PyData.depth], by rw [costD], fun m => by rw [gd]⟩
theorem len_seq {x : D} {ds : List D} {h : Hh} (hx : IsSeq x ds) : lenW [.dat x] h = some (.dat (.int (ds.length : Int)), h) := by
  rcases hx with rfl | rfl <;> rfl
theorem other_seq {n m b c : Nat} {x : D} {ds : List D} {h : Hh} (ih : ∀ {d : D} {h : Hh} {c : Nat}, PyData.depth d < n → gd m d = true → costD d ≤ 1000000 → BoxAt h b c → c + 10 * n ≤ 900000 → ∃ d' h', m__law_otherwise n [.ref b, .dat d] h = some (.dat d', h') ∧ Ot m d d' ∧ BoxAt h' b (c + 10 * n) ∧ Only b h h')
    (hx : IsSeq x ds) (hm : 20 ≤ m) (hm2 : m ≤ 24) (hg : gd m x = true) (hd : PyData.depth x < n + 1) (hcs : costD x ≤ 1000000) (hb : BoxAt h b c) (hc : c + 10 * (n + 1) ≤ 900000) :
    ∃ d' h', m__law_otherwise (n + 1) [.ref b, .dat x] h = some (.dat d', h') ∧ Ot m x d' ∧ BoxAt h' b (c + 10 * (n + 1)) ∧ Only b h h' := by
  have hz : sizeLine = 16777216 := rfl
  obtain ⟨s1, s2, s3, sd, sc, sg⟩ := seq_has hx
  have dl := costDs_len ds
  have t2 : ∀ g : Hh, otT2 (e0t b x) g = some (false, g) := fun g => bAndF ((isi1 hg).trans (by rw [s2]))
  have t3 : ∀ g : Hh, otT3 (e0t b x) g = some (false, g) := fun g => bAndF ((isi1 hg).trans (by rw [s3]))
  have i1 : ∀ g : Hh, fB (f1 (isiW ["list", "tuple"]) (fVar 1)) (e0t b x) g = some (true, g) := fun g => (isi1 hg).trans (by rw [s1])
  have lt : ∀ g : Hh, fB (f2 gt_W (fA lenW (fCons (fVar 1) (fNil))) (fC (.int 0))) (e0t b x) g = some (decide ((0 : Int) < (ds.length : Int)), g) := fun g => xBh (x2 (f := gt_W) (xA (xC (E := fVar 1) rfl xN) (len_seq hx)) (B := fC (.int 0)) rfl gt_i)
  by_cases e0 : ds.length = 0
  · have t1 : otT1 (e0t b x) h = some (false, h) := bAndT (i1 h) (bAndF ((lt h).trans (by rw [decide_eq_false (by omega)])))
    exact fall_odd hb (by omega) hm t1 (t2 h) (t3 h) (hb.mono (by omega)) (Only.refl b h)
  obtain ⟨t, g, et, b1, o1⟩ := take_gt (d := x) (n := 6) hb (by omega) (by omega) (by omega)
  have t1 : otT1 (e0t b x) h = some (t, g) := bAndT (i1 h) (bAndT ((lt h).trans (by rw [decide_eq_true (by omega)])) et)
  cases t with
  | false => exact fall_odd hb (by omega) hm t1 (t2 g) (t3 g) (b1.mono (by omega)) o1
  | true =>
    obtain ⟨at_, g2, e2, a0, a1, b2, o2⟩ := take_ok (n := (ds.length : Int)) b1 (by omega) (by omega) (by omega)
    obtain ⟨turn, g3, e3, u0, u1, b3, o3⟩ := take_ok (n := 10) b2 (by omega) (by omega) (by omega)
    have O3 := (o1.trans o2).trans o3
    have l3 : g3.length = h.length := O3.len
    have lb := hb.lt
    have fit : Fit m (PyData.depthAll ds) (costDs ds) ds := ⟨by rw [← sg]; exact hg, Nat.le_refl _, Nat.le_refl _⟩
    have lw : listW true [.dat x] g3 = some (.ref g3.length, g3 ++ [some (.lst ds)]) := by rcases hx with rfl | rfl <;> rfl
    have par : ∀ rest : SM, sSeq (sPar (fCons (fA (m__law_take) (fCons (fVar 0) (fCons (fA lenW (fCons (fVar 1) (fNil))) (fNil)))) (fCons (fA (m__law_take) (fCons (fVar 0) (fCons (fC (.int 10)) (fNil)))) (fCons (fA (listW true) (fCons (fVar 1) (fNil))) (fNil)))) [2, 3, 4]) rest (e0t b x) g = rest (e5t b x at_ turn g3.length) (g3 ++ [some (.lst ds)]) := fun rest =>
      zP (ws := [.dat (.int at_), .dat (.int turn), .ref g3.length]) (xC (xA (xC (E := fVar 0) rfl (xC (xA (xC (E := fVar 1) rfl xN) (len_seq hx)) xN)) e2) (xC (xA (xC (E := fVar 0) rfl (xC (E := fC (.int 10)) rfl xN)) e3) (xC (xA (xC (E := fVar 1) rfl xN) lw) xN))) rfl rfl
    have isx : ∀ (ts : List String) (g : Hh) (ρ : DL.Env), fVar 1 ρ g = some (.dat x, g) → fB (f1 (isiW ts) (fVar 1)) ρ g = some (ts.any fun t => isT1 t x, g) := fun ts g ρ e => xBh (isi_d e hg)
    by_cases c9 : turn < 9
    · obtain ⟨ds', g4, e4, f4, b4, o4⟩ := otC_ok ih hx fit (by omega) (by omega) b3 (by omega) a0 (by omega) u0 c9
      have gl : g4.length = g3.length := o4.len
      have hn : (g4 ++ [some (MO.lst ds')])[g3.length]? = some (some (.lst ds')) := app_get gl
      have st : (g4 ++ [some (MO.lst ds')]).set g3.length none = g4 ++ [none] := app_set gl
      have fz : frz 4 (e5t b x at_ turn g3.length) (g4 ++ [some (.lst ds')]) = some ([some (.ref b), some (.dat x), some (.dat (.int at_)), some (.dat (.int turn)), some (.dat (.list ds'))], g4 ++ [none]) := by
        have ne : (b = g3.length) = False := by
          have : b ≠ g3.length := by omega
          simpa using this
        unfold frz
        simp only [e5t, List.getElem?_cons_zero, List.getElem?_cons_succ, hn, List.set_cons_zero, List.set_cons_succ, List.any_cons, List.any_nil, isR_dat, isR_none, isR_ref, ne, decide_false, Bool.or_false, isTab, Bool.false_eq_true, if_false, moD, st]
      obtain ⟨hE, lvx, bE, oE⟩ : ∃ hE, (∀ d : D, leave false h (.dat d) (g4 ++ [none]) = some (.dat d, hE)) ∧ BoxAt hE b (c + 10 * (n + 1)) ∧ Only b h hE := by
        have O4 : Only b h g4 := O3.trans o4
        have tk : (g4 ++ [none]).take h.length = g4 := by rw [← O4.len, List.take_left]
        refine ⟨g4, fun d => ?_, b4.mono (by omega), O4⟩
        have := leave_dat (h := h) (h' := g4 ++ [none]) (d := d) (by rw [tk]; exact live_only hb b4 O4)
        rw [tk] at this
        exact this
      have run : ∀ y : D, fIf (fB (f1 (isiW ["list"]) (fVar 1))) (fVar 4) (fA tupleW (fCons (fVar 4) (fNil))) [some (.ref b), some (.dat x), some (.dat (.int at_)), some (.dat (.int turn)), some (.dat (.list ds'))] (g4 ++ [none]) = some (.dat y, g4 ++ [none]) → m__law_otherwise (n + 1) [.ref b, .dat x] h = some (.dat y, hE) := fun y ey => by
        rw [other_eq]
        refine fnM_rt (h' := g4 ++ [none]) (w := .dat y) ?_ rfl (lvx y)
        show sSeq _ _ (e0t b x) h = _
        refine zRt ((sIt t1).trans ?_)
        unfold otA
        refine (par _).trans ((zNx e4).trans ?_)
        unfold sFrz
        rw [fz]
        exact zR ey
      rcases hx with rfl | rfl
      · obtain ⟨q1, q2, q3⟩ := f4.list
        exact ⟨.list ds', hE, run _ (xIfT (isx ["list"] _ _ rfl) rfl), ⟨q1, by omega, by omega⟩, bE, oE⟩
      · obtain ⟨q1, q2, q3⟩ := f4.tuple
        exact ⟨.tuple ds', hE, run _ (xIfF (isx ["list"] _ _ rfl) (xA (xC (E := fVar 4) rfl xN) (xTup (.inl rfl)))), ⟨q1, by omega, by omega⟩, bE, oE⟩
    · -- turned into the other kind
      have f5 : Fit (m + 1) (PyData.depthAll ds + 3) (2 * costDs ds + 3000) ds := fit.sub (fun _ z => z) (by omega)
      have hn : (g3 ++ [some (MO.lst ds)])[g3.length]? = some (some (.lst ds)) := app_get rfl
      have tk : (g3 ++ [some (MO.lst ds)]).take h.length = g3 := by rw [← l3, List.take_left]
      have lvd : ∀ d : D, leave false h (.dat d) (g3 ++ [some (.lst ds)]) = some (.dat d, g3) := fun d => by
        have := leave_dat (h := h) (h' := g3 ++ [some (.lst ds)]) (d := d) (by rw [tk]; exact live_only hb b3 O3)
        rw [tk] at this
        exact this
      have lvr : leave false h (.ref g3.length) (g3 ++ [some (.lst ds)]) = some (.dat (.list ds), g3) := by
        unfold leave
        rw [tk, if_pos (live_only hb b3 O3)]
        simp only [hn]
        rw [if_neg (by omega), if_neg (by decide)]
      have tl : ∀ (f : SM), sIf (fB (f2 lt_W (fVar 3) (fC (.int 6)))) f (sIf (fB (f2 (eqW false) (fVar 3) (fC (.int 6)))) (sExpr (fM isL popAtW (fVar 4) (fCons (fVar 2) (fNil)))) (sIf (fB (f2 (eqW false) (fVar 3) (fC (.int 7)))) (sExpr (fM isL insertW (fVar 4) (fCons (fVar 2) (fCons (f2 idxW (fVar 1) (fVar 2)) (fNil))))) (sIf (fB (f2 (eqW false) (fVar 3) (fC (.int 8)))) (sExpr (fM isL reverseW (fVar 4) fNil)) (sRet (fIf (fB (f1 (isiW ["tuple"]) (fVar 1))) (fVar 4) (fA tupleW (fCons (fVar 4) (fNil)))))))) (e5t b x at_ turn g3.length) (g3 ++ [some (.lst ds)]) = sRet (fIf (fB (f1 (isiW ["tuple"]) (fVar 1))) (fVar 4) (fA tupleW (fCons (fVar 4) (fNil)))) (e5t b x at_ turn g3.length) (g3 ++ [some (.lst ds)]) := fun f => by
        have q1 : fB (f2 lt_W (fVar 3) (fC (.int 6))) (e5t b x at_ turn g3.length) (g3 ++ [some (.lst ds)]) = some (false, g3 ++ [some (.lst ds)]) := by
          refine xBh (x2 (f := lt_W) (A := fVar 3) (B := fC (.int 6)) rfl rfl ?_)
          rw [lt_i', decide_eq_false (by omega)]
        have tq : ∀ (k : Int), turn ≠ k → fB (f2 (eqW false) (fVar 3) (fC (.int k))) (e5t b x at_ turn g3.length) (g3 ++ [some (.lst ds)]) = some (false, g3 ++ [some (.lst ds)]) := fun k e => xBh (x2 (f := eqW false) (A := fVar 3) (B := fC (.int k)) rfl rfl (eq_i (decide_eq_false e)))
        rw [sIe q1, sIe (tq 6 (by omega)), sIe (tq 7 (by omega)), sIe (tq 8 (by omega))]
      have run : ∀ (w : W) (y : D), fIf (fB (f1 (isiW ["tuple"]) (fVar 1))) (fVar 4) (fA tupleW (fCons (fVar 4) (fNil))) (e5t b x at_ turn g3.length) (g3 ++ [some (.lst ds)]) = some (w, g3 ++ [some (.lst ds)]) → leave false h w (g3 ++ [some (.lst ds)]) = some (.dat y, g3) → m__law_otherwise (n + 1) [.ref b, .dat x] h = some (.dat y, g3) := fun w y ey lv => by
        rw [other_eq]
        refine fnM_rt (h' := g3 ++ [some (.lst ds)]) (w := w) ?_ rfl lv
        show sSeq _ _ (e0t b x) h = _
        refine zRt ((sIt t1).trans ?_)
        unfold otA
        refine (par _).trans (zRt ?_)
        unfold otC
        rw [tl]
        exact zR ey
      rcases hx with rfl | rfl
      · obtain ⟨q1, q2, q3⟩ := f5.tuple
        have tw : tupleW [.ref g3.length] (g3 ++ [some (.lst ds)]) = some (.dat (.tuple ds), g3 ++ [some (.lst ds)]) := by
          unfold tupleW
          simp only [deref, hn]
          rfl
        exact ⟨.tuple ds, g3, run _ _ (xIfF (isx ["tuple"] _ _ rfl) (xA (xC (E := fVar 4) rfl xN) tw)) (lvd _), ⟨q1, by omega, by omega⟩, b3.mono (by omega), O3⟩
      · obtain ⟨q1, q2, q3⟩ := f5.list
        exact ⟨.list ds, g3, run _ _ (xIfT (isx ["tuple"] _ _ rfl) rfl) lvr, ⟨q1, by omega, by omega⟩, b3.mono (by omega), O3⟩
theorem other_ok {m b : Nat} (hm : 20 ≤ m) (hm2 : m ≤ 24) : ∀ (f : Nat) {d : D} {h : Hh} {c : Nat}, PyData.depth d < f → gd m d = true → costD d ≤ 1000000 → BoxAt h b c → c + 10 * f ≤ 900000 → ∃ d' h', m__law_otherwise f [.ref b, .dat d] h = some (.dat d', h') ∧ Ot m d d' ∧ BoxAt h' b (c + 10 * f) ∧ Only b h h'
  | 0, d, h, c, hd, _, _, _, _ => absurd hd (Nat.not_lt_zero _)
  | n + 1, d, h, c, hd, hg, hcs, hb, hc => by
    cases d with
    | list ds => exact other_seq (fun {_ _ _} a1 a2 a3 a4 a5 => other_ok hm hm2 n a1 a2 a3 a4 a5) (.inl rfl) hm hm2 hg hd hcs hb hc
    | tuple ds => exact other_seq (fun {_ _ _} a1 a2 a3 a4 a5 => other_ok hm hm2 n a1 a2 a3 a4 a5) (.inr rfl) hm hm2 hg hd hcs hb hc
    | none => exact other_leaf hb (by omega) hm hm2 hg ⟨rfl, rfl⟩
    | bool z => exact other_leaf hb (by omega) hm hm2 hg ⟨rfl, rfl⟩
    | int i => exact other_leaf hb (by omega) hm hm2 hg ⟨rfl, rfl⟩
    | str s => exact other_leaf hb (by omega) hm hm2 hg ⟨rfl, rfl⟩
    | dict es => exact other_leaf hb (by omega) hm hm2 hg ⟨rfl, rfl⟩
def lowB (c : Nat) : Bool := decide (97 ≤ c) && decide (c ≤ 122)
def isN : D → Bool
  | .str s => decide (1 ≤ s.cps.toList.length) && decide (s.cps.toList.length ≤ 6) && s.cps.toList.all lowB
  | _ => false
theorem letters_low : ∀ c ∈ letters.cps.toList, lowB c = true := by
  have : (letters.cps.toList.all lowB) = true := by decide +kernel
  exact fun c hc => List.all_eq_true.mp this c hc
theorem letters_dec (c : Nat) : decide (c ∈ letters.cps.toList) = lowB c := by
  cases q : lowB c with
  | true =>
    unfold lowB at q
    simp only [Bool.and_eq_true, decide_eq_true_eq] at q
    exact decide_eq_true (letters_mem q.1 q.2)
  | false => exact decide_eq_false fun h => by rw [letters_low c h] at q; cases q
theorem isN_ok {s : Str} (h : isN (.str s) = true) : NameOk s := by
  unfold isN at h
  simp only [Bool.and_eq_true, decide_eq_true_eq, List.all_eq_true] at h
  have e : s.length = s.cps.toList.length := by rw [Array.length_toList]; rfl
  refine ⟨by omega, by omega, fun c hc => ?_⟩
  have := h.2 c hc
  unfold lowB at this
  simpa using this
theorem tw_lt {p : Nat → Bool} : ∀ {l : List Nat}, l.all p = false → (l.takeWhile p).length < l.length ∧ (l.drop (l.takeWhile p).length).all p = false
  | [], h => by cases h
  | c :: l, h => by
    cases q : p c with
    | false =>
      rw [List.takeWhile_cons, if_neg (by rw [q]; decide)]
      refine ⟨by simp, ?_⟩
      rw [List.length_nil, List.drop_zero]
      exact h
    | true =>
      rw [List.all_cons, q, Bool.true_and] at h
      obtain ⟨a, b⟩ := tw_lt h
      rw [List.takeWhile_cons, if_pos q]
      exact ⟨by simp only [List.length_cons]; omega, by rw [List.length_cons, List.drop_succ_cons]; exact b⟩
theorem tw_all {p : Nat → Bool} : ∀ {l : List Nat}, l.all p = true → l.takeWhile p = l
  | [], _ => rfl
  | c :: l, h => by
    rw [List.all_cons, Bool.and_eq_true] at h
    rw [List.takeWhile_cons, if_pos h.1, tw_all h.2]
theorem empty_len {x : Str} (h : x.length = 0) : x = ("" : Str) := by
  obtain ⟨a⟩ := x
  have : a = #[] := Array.eq_empty_of_size_eq_zero h
  subst this
  rfl
theorem strip_len {goes : Nat → Bool} {x : Str} : decide (Txt.stripBy goes true true x = ("" : Str)) = x.cps.toList.all goes := by
  have hl : x.length = x.cps.toList.length := by rw [Array.length_toList]; rfl
  have lo : stripLo goes true x = (x.cps.toList.takeWhile goes).length := by unfold stripLo; rw [if_pos rfl]
  have hi : ∀ k, stripHi goes true x k = x.length - ((x.cps.toList.drop k).reverse.takeWhile goes).length := fun k => by unfold stripHi; rw [if_pos rfl]
  rw [PyProof.Rows.stripBy_eq, lo, hi]
  have tl : (x.cps.toList.takeWhile goes).length ≤ x.cps.toList.length := (List.takeWhile_sublist _).length_le
  cases q : x.cps.toList.all goes with
  | true =>
    rw [tw_all q, List.drop_length, List.reverse_nil, List.takeWhile_nil, List.length_nil]
    refine decide_eq_true (empty_len ?_)
    rw [size_strSub _ _ _ (by omega)]
    omega
  | false =>
    obtain ⟨a, b⟩ := tw_lt q
    generalize hk : (x.cps.toList.takeWhile goes).length = k at *
    have b' : (x.cps.toList.drop k).reverse.all goes = false := by rw [List.all_reverse]; exact b
    obtain ⟨c, _⟩ := tw_lt b'
    rw [List.length_reverse, List.length_drop] at c
    refine decide_eq_false fun e => ?_
    have q := congrArg Str.length e
    rw [size_strSub _ _ _ (by omega), show ("" : Str).length = 0 from rfl] at q
    omega
theorem strip_low (s : Str) : decide (Txt.stripChars s letters = ("" : Str)) = s.cps.toList.all lowB := by
  unfold Txt.stripChars
  rw [strip_len]
  congr 1
  funext c
  rw [← letters_dec c]
  cases q : letters.cps.contains c with
  | true => exact (decide_eq_true (by simpa using q)).symm
  | false => exact (decide_eq_false (by simpa using q)).symm
theorem xOT2 {A B : BM} {ρ : DL.Env} {h h1 : Hh} (ha : A ρ h = some (true, h1)) : bOr A B ρ h = some (true, h1) := by
  unfold bOr
  simp only [ha, obnd, if_true]
theorem fChain_f (s1 s2 : W → W → Hh → Option (W × Hh)) {f g k : EM} {ρ : DL.Env} {h h1 h2 h3 : Hh} {a b : W} (e1 : f ρ h = some (a, h1)) (e2 : g ρ h1 = some (b, h2)) (e3 : s1 a b h2 = some (.dat (.bool false), h3)) : fChain s1 s2 f g k ρ h = some (.dat (.bool false), h3) := by
  unfold fChain
  simp only [e1, e2, e3, obnd]
  rfl
section
variable {m : Nat} {d : D} {h : Hh}
theorem lenS {s : Str} (hl : s.length ≤ 1000) : lenW [.dat (.str s)] h = some (.dat (.int (s.cps.toList.length : Int)), h) := by
  have e : (s.length : Int) = (s.cps.toList.length : Int) := by rw [Array.length_toList]; rfl
  have hz : sizeLine = 16777216 := rfl
  unfold lenW
  simp only [deref]
  rw [if_pos (by omega), e]
  rfl
theorem le_i' {i j : Int} : le_W (.dat (.int i)) (.dat (.int j)) h = some (.dat (.bool (decide (i ≤ j))), h) := by
  unfold le_W ltW
  simp only [deref]
  rfl
theorem isname_any (hm : m ≤ 25) (hg : gd m d = true) : m_is_name [.dat d] h = some (.dat (.bool (isN d)), h) := by
  have hz : sizeLine = 16777216 := rfl
  unfold m_is_name
  refine fnM_rt (h' := h) (w := .dat (.bool (isN d))) ?_ rfl leave_same'
  show sRet _ [some (.dat d), none] h = _
  refine zR ?_
  have i0 : f1 (isiW ["str"]) (fVar 0) [some (.dat d), none] h = some (.dat (.bool (["str"].any fun t => isT1 t d)), h) := isi_d rfl hg
  cases d with
  | str s =>
    have tx := gd_txt (by omega) hg
    have e : s.length = s.cps.toList.length := by rw [Array.length_toList]; rfl
    have hl := tx.1
    refine xAnd i0 ?_
    have ln : fA lenW (fCons (fVar 0) (fNil)) [some (.dat (.str s)), none] h = some (.dat (.int (s.cps.toList.length : Int)), h) := xA (xC (E := fVar 0) rfl xN) (lenS (by omega))
    have lc : ∀ cs : List Nat, lcL (gN 1) bYes (f2 (inW false) (fVar 1) (fC (.str letters))) [some (.dat (.str s)), none] (cs.map fun c => PyData.str ⟨#[c]⟩) h = some ((cs.map lowB).map .bool, h) := fun cs => by
      induction cs with
      | nil => rfl
      | cons c cs ih =>
        have k : gN 1 (.dat (.str ⟨#[c]⟩)) [some (.dat (.str s)), none] h = some [some (.dat (.str s)), some (.dat (.str ⟨#[c]⟩))] := rfl
        have ev : f2 (inW false) (fVar 1) (fC (.str letters)) [some (.dat (.str s)), some (.dat (.str ⟨#[c]⟩))] h = some (.dat (.bool (lowB c)), h) := by
          rw [← letters_dec c]; rfl
        rw [List.map_cons, lcL]
        simp only [k, bYes, obnd, if_true, ev, ih, List.map_cons]
    have fl : fLc false (strI (fVar 0)) (gN 1) (bYes) (f2 (inW false) (fVar 1) (fC (.str letters))) [1] [some (.dat (.str s)), none] h = some (.dat (.list ((s.cps.toList.map lowB).map .bool)), h) :=
      xL (vs := [1]) (show strI (fVar 0) _ h = some (signs s, h) from rfl) (lc s.cps.toList) (by rw [List.length_map, List.length_map]; omega)
    by_cases c1 : (1 : Int) ≤ (s.cps.toList.length : Int)
    · by_cases c6 : (s.cps.toList.length : Int) ≤ 6
      · have v : isN (.str s) = s.cps.toList.all lowB := by
          unfold isN
          dsimp only
          rw [decide_eq_true (by omega), decide_eq_true (by omega)]; rfl
        rw [v]
        have ch := fChain_e le_W le_W (f := fC (.int 1)) (k := fC (.int 6)) (a := .dat (.int 1)) (h1 := h) (d := .dat (.int 6)) (h4 := h) rfl ln (by rw [le_i', decide_eq_true c1]) rfl
        rw [le_i', decide_eq_true c6] at ch
        refine xAnd ch (xA (xC fl xN) (all_b ?_))
        rw [List.all_map]; rfl
      · have v : isN (.str s) = false := by
          unfold isN
          dsimp only
          rw [decide_eq_false (show ¬ s.cps.toList.length ≤ 6 by omega)]; simp
        rw [v]
        have ch := fChain_e le_W le_W (f := fC (.int 1)) (k := fC (.int 6)) (a := .dat (.int 1)) (h1 := h) (d := .dat (.int 6)) (h4 := h) rfl ln (by rw [le_i', decide_eq_true c1]) rfl
        rw [le_i', decide_eq_false c6] at ch
        exact xAndF ch
    · have v : isN (.str s) = false := by
        unfold isN
        dsimp only
        rw [decide_eq_false (show ¬ 1 ≤ s.cps.toList.length by omega)]; simp
      rw [v]
      exact xAndF (fChain_f le_W le_W (f := fC (.int 1)) (a := .dat (.int 1)) (h1 := h) rfl ln (by rw [le_i', decide_eq_false c1]))
  | dict es => simp [gd] at hg
  | _ => exact xAndF i0
end
section
variable {h : Hh}
theorem same_bool70 (n : Nat) (b : Bool) : m__law_same (n + 1) [.dat (.bool b), .dat (.bool b)] h = some (.dat (.bool true), h) := by
  have tk : leave false h (.dat (.bool true)) h = some (.dat (.bool true), h) := leave_same'
  have e0 := fun b : Bool => eqW_same (neg := true) (h := h) (eqS_bool b)
  have e1 := fun b : Bool => eqW_same (neg := false) (h := h) (eqS_bool b)
  unfold m__law_same
  walk_at "dl"
theorem same_twoN {n : Nat} {ds : List D} (hb : ∀ d ∈ ds, ∃ b, d = .bool b) (ez : zipOk ds ds = true) (hl : ds.length ≤ sizeLine) : m__law_same (n + 1 + 1) [.dat (.list ds), .dat (.list ds)] h = some (.dat (.bool true), h) := by
  have tk : leave false h (.dat (.bool true)) h = some (.dat (.bool true), h) := leave_same'
  have e0 := fun b : Bool => eqW_same (neg := true) (h := h) (eqS_bool b)
  have e1 := fun b : Bool => eqW_same (neg := false) (h := h) (eqS_bool b)
  have e3 := same_seq (n := n + 1) (ds := ds) (h := h) (fun d hd => by
    obtain ⟨b, rfl⟩ := hb d hd
    exact same_bool70 n b) (some (.dat (.list ds))) (some (.dat (.list ds))) hl
  have e2 := eqW_same (neg := true) (h := h) (eqS_self_int (ds.length : Int))
  have e4 := bools_true ds.length
  have e5 := all_true ds.length
  have e6 : (List.replicate ds.length (PyData.bool true)).length ≤ sizeLine := by simpa using hl
  clear hb
  unfold m__law_same
  walk_at "dl"
theorem same_two (b : Bool) : m__law_same 12 [.dat (.list [.bool b, .bool b]), .dat (.list [.bool b, .bool b])] h = some (.dat (.bool true), h) :=
  same_twoN (n := 10) (fun d hd => ⟨b, by simpa using hd⟩) (by cases b <;> decide) (show 2 ≤ sizeLine by decide)
end
section
variable {m : Nat} {d : D} {h : Hh}
theorem lc_bool {k : TM} {f : EM} {ρ : DL.Env} (P : D → Bool) : ∀ {xs : List D}, (∀ x ∈ xs, ∃ ρ1, k (.dat x) ρ h = some ρ1 ∧ f ρ1 h = some (.dat (.bool (P x)), h)) → lcL k bYes f ρ xs h = some ((xs.map P).map .bool, h)
  | [], _ => rfl
  | x :: xs, H => by
    obtain ⟨ρ1, e1, e2⟩ := H x List.mem_cons_self
    have ih := lc_bool P (xs := xs) fun y hy => H y (List.mem_cons_of_mem _ hy)
    unfold lcL
    simp only [e1, bYes, obnd, if_true, e2, ih]
    rfl
theorem all_id {P : D → Bool} {xs : List D} : (xs.map P).all id = xs.all P := by rw [List.all_map]; rfl
theorem len_tup {ds : List D} : lenW [.dat (.tuple ds)] h = some (.dat (.int (ds.length : Int)), h) := rfl
def allN (ds : List D) : Bool := ds.all isN
theorem allN_strs : ∀ {ds : List D}, allN ds = true → ∃ F : List Str, ds = F.map .str ∧ ∀ s ∈ F, NameOk s
  | [], _ => ⟨[], rfl, fun s hs => by cases hs⟩
  | d :: ds, e => by
    unfold allN at e
    rw [List.all_cons, Bool.and_eq_true] at e
    obtain ⟨F, rfl, hF⟩ := allN_strs (ds := ds) e.2
    cases d with
    | str s => exact ⟨s :: F, rfl, fun t ht => by
        rcases List.mem_cons.mp ht with rfl | ht
        · exact isN_ok e.1
        · exact hF t ht⟩
    | _ => simp [isN] at e
theorem foldR_le : ∀ (l : List Str) {acc : List Str}, (l.foldl insR acc).length ≤ acc.length + l.length
  | [], _ => Nat.le_refl _
  | y :: l, acc => by
    have h1 := foldR_le l (acc := insR acc y)
    have h2 := insR_len acc y
    rw [List.foldl_cons, List.length_cons]
    omega
theorem foldR_iff : ∀ (l acc : List Str), (l.foldl insR acc).length = acc.length + l.length ↔ l.Nodup ∧ ∀ x ∈ l, x ∉ acc
  | [], acc => by simp
  | y :: l, acc => by
    rw [List.foldl_cons, List.nodup_cons, List.length_cons]
    by_cases c : y ∈ acc
    · have e : insR acc y = acc := by unfold insR; rw [if_pos c]
      have := foldR_le l (acc := acc)
      rw [e]
      refine ⟨fun q => by omega, fun q => absurd c (q.2 y List.mem_cons_self)⟩
    · have e : insR acc y = acc ++ [y] := by unfold insR; rw [if_neg c]
      have ih := foldR_iff l (acc ++ [y])
      rw [List.length_append, List.length_singleton] at ih
      rw [e, show acc.length + (l.length + 1) = acc.length + 1 + l.length by omega, ih]
      constructor
      · rintro ⟨a, b⟩
        refine ⟨⟨fun q => b y q (by simp), a⟩, fun x hx => ?_⟩
        rcases List.mem_cons.mp hx with rfl | hx
        · exact c
        · exact fun q => b x hx (List.mem_append_left _ q)
      · rintro ⟨⟨a, b⟩, f⟩
        refine ⟨b, fun x hx q => ?_⟩
        rcases List.mem_append.mp q with q | q
        · exact f x (List.mem_cons_of_mem _ hx) q
        · rw [List.mem_singleton] at q; subst q; exact a hx
theorem uR_iff (F : List Str) : (uR F).length = F.length ↔ F.Nodup := by
  have := foldR_iff F []
  rw [List.length_nil, Nat.zero_add] at this
  unfold uR
  rw [this]
  simp
def nodD (ds : List D) : Bool := match rowS ds with
  | some l => decide l.Nodup
  | none => false
theorem nodD_map (F : List Str) : nodD (F.map .str) = decide F.Nodup := by
  unfold nodD
  rw [rowS_strs]
def rowB : D → Bool
  | .tuple ds => !ds.isEmpty && (allN ds && nodD ds)
  | _ => false
theorem rowB_tup (ds : List D) : rowB (.tuple ds) = (!ds.isEmpty && (allN ds && nodD ds)) := rfl
theorem isrow_x (hm : m ≤ 25) (hg : gd m d = true) (hl : costD d ≤ 1000000) : m_is_row [.dat d] h = some (.dat (.bool (rowB d)), h) := by
  have hz : sizeLine = 16777216 := rfl
  have i0 : f1 (isiW ["tuple"]) (fVar 0) [some (.dat d), none] h = some (.dat (.bool (["tuple"].any fun t => isT1 t d)), h) := isi_d rfl hg
  have no : ∀ z : Bool, sSeq (sIf (bOr (bNot (fB (f1 (isiW ["tuple"]) (fVar 0)))) (bOr (fB (f2 (eqW false) (fA lenW (fCons (fVar 0) (fNil))) (fC (.int 0)))) (bNot (fB (fA allW (fCons (fLc false (seqI (fVar 0)) (gN 1) (bYes) (fA (m_is_name) (fCons (fVar 1) (fNil))) [1]) (fNil))))))) (sRet (fC (.bool false))) (sSkip))
      (sRet (f2 (eqW false) (fA lenW (fCons (fDc false (seqI (fVar 0)) (gN 1) (bYes) (fVar 1) (fC (.bool true)) [1]) (fNil))) (fA lenW (fCons (fVar 0) (fNil))))) [some (.dat d), none] h = some (.rt (.dat (.bool z)), h) → m_is_row [.dat d] h = some (.dat (.bool z), h) := fun z e => by
    unfold m_is_row
    refine fnM_rt (h' := h) (w := .dat (.bool z)) ?_ rfl leave_same'
    exact e
  cases d with
  | tuple ds =>
    have gs : gds m ds = true := by rw [gd] at hg; exact hg
    have dl := costDs_len ds
    have dc : costD (.tuple ds) = costDs ds + 3 := by rw [costD]
    have ln : fA lenW (fCons (fVar 0) (fNil)) [some (.dat (.tuple ds)), none] h = some (.dat (.int (ds.length : Int)), h) := xA (xC (E := fVar 0) rfl xN) len_tup
    by_cases c0 : ds.length = 0
    · have : ds = [] := List.length_eq_zero_iff.mp c0
      subst this
      exact no false (zRt ((sIt (xO (xNB (b := true) i0) (xOT2 (xB (x2 ln (B := fC (.int 0)) rfl (eq_i (decide_eq_true (by simp)))))))).trans (zR rfl)))
    · have c0' : ds.isEmpty = false := by cases ds with
        | nil => exact absurd rfl c0
        | cons => rfl
      have lc := lc_bool (k := gN 1) (f := fA (m_is_name) (fCons (fVar 1) (fNil))) (ρ := [some (.dat (.tuple ds)), none]) (h := h) isN (xs := ds) fun x hx => ⟨[some (.dat (.tuple ds)), some (.dat x)], rfl, xA (xC (E := fVar 1) rfl xN) (isname_any hm (gds_iff.mp gs x hx))⟩
      have fl := xL (vs := [1]) (xS (E := fVar 0) (x := .tuple ds) (ρ := [some (.dat (.tuple ds)), none]) (h := h) (h1 := h) rfl (.inr rfl)) lc (by rw [List.length_map, List.length_map]; omega)
      have al := xA (m := allW) (xC fl xN) (all_b (h := h) (all_id (P := isN) (xs := ds)))
      have e1 := xB (x2 (f := eqW false) ln (B := fC (.int 0)) rfl (eq_i (h := h) (decide_eq_false (by omega : ¬ (ds.length : Int) = 0))))
      rw [rowB_tup, c0', Bool.not_false, Bool.true_and]
      cases ca : allN ds with
      | false =>
        have ca' : ds.all isN = false := ca
        rw [ca'] at al
        exact no false (zRt ((sIt (xO (xNB (b := true) i0) (xO e1 (xNB (b := false) al)))).trans (zR rfl)))
      | true =>
        have ca' : ds.all isN = true := ca
        rw [ca'] at al
        obtain ⟨F, rfl, hF⟩ := allN_strs ca
        rw [List.length_map] at dl
        rw [Bool.true_and, nodD_map]
        have ed := dcL_tru (k := gN 1) (fk := fVar 1) (ρ := [some (.dat (.tuple (F.map .str))), none]) (h := h) (fun d => match d with | .str s => s | _ => "") (ds := F.map .str) (l := []) (by rw [List.length_map, List.length_nil]; omega) (by
          intro e he
          obtain ⟨s, _, rfl⟩ := List.mem_map.mp he
          exact ⟨[some (.dat (.tuple (F.map .str))), some (.dat (.str s))], rfl, rfl⟩)
        rw [List.map_map] at ed
        have mp : F.map ((fun d : D => match d with | .str s => s | _ => "") ∘ PyData.str) = F := by
          have : ((fun d : D => match d with | .str s => s | _ => "") ∘ PyData.str) = id := rfl
          rw [this, List.map_id]
        rw [mp] at ed
        have e' : dcL (gN 1) bYes (fVar 1) (fC (.bool true)) [some (.dat (.tuple (F.map .str))), none] (F.map .str) [] h = some (sdic (tru (uR F)), h) := ed
        refine no _ ((zNx (sIfF (xO (xNB (b := true) i0) (xO e1 (xNB (b := true) al))))).trans (zR ?_))
        have fd : fDc false (seqI (fVar 0)) (gN 1) (bYes) (fVar 1) (fC (.bool true)) [1] [some (.dat (.tuple (F.map .str))), none] h = some (.dat (.dict (sdic (tru (uR F)))), h) := by
          unfold fDc
          rw [xS (E := fVar 0) (x := .tuple (F.map .str)) (ρ := [some (.dat (.tuple (F.map .str))), none]) (h := h) (h1 := h) rfl (.inr rfl)]
          show obnd (dcL (gN 1) bYes (fVar 1) (fC (.bool true)) [some (.dat (.tuple (F.map .str))), none] (F.map .str) [] h) _ = _
          rw [e']
          rfl
        have l2 : lenW [.dat (.dict (sdic (tru (uR F))))] h = some (.dat (.int ((uR F).length : Int)), h) := by
          unfold lenW
          simp only [deref, isT_sdic (tru (uR F))]
          simp only [sdic, tru, List.length_map]
          rfl
        refine x2 (xA (xC fd xN) l2) ln (eq_i ?_)
        rw [List.length_map]
        by_cases c : F.Nodup
        · rw [decide_eq_true c, (uR_iff F).mpr c, decide_eq_true rfl]
        · rw [decide_eq_false c, decide_eq_false]
          have := mt (uR_iff F).mp c
          omega
  | dict es => simp [gd] at hg
  | _ => exact no false (zRt ((sIt (xOT2 (xNB (b := false) i0))).trans (zR rfl)))
noncomputable def nameT (i : Nat) : BM := bOr (bNot (fB (f1 (isiW ["str"]) (fVar i)))) (bOr (bNot (fB (fChain lt_W lt_W (fC (.int 0)) (fA lenW (fCons (fVar i) (fNil))) (fC (.int 7))))) (fB (f2 (eqW true) (fStrip (fVar i) (fC (.str "abcdefghijklmnopqrstuvwxyz"))) (fC (.str "")))))
theorem nameT_ok {x : W} (hm : m ≤ 25) (hg : gd m d = true) : nameT 1 [some x, some (.dat d)] h = some (!isN d, h) := by
  have hz : sizeLine = 16777216 := rfl
  have i0 : f1 (isiW ["str"]) (fVar 1) [some x, some (.dat d)] h = some (.dat (.bool (["str"].any fun t => isT1 t d)), h) := isi_d rfl hg
  unfold nameT
  cases d with
  | str s =>
    have tx := gd_txt (by omega) hg
    have hl := tx.1
    refine xO (xNB (b := true) i0) ?_
    have ln : fA lenW (fCons (fVar 1) (fNil)) [some x, some (.dat (.str s))] h = some (.dat (.int (s.cps.toList.length : Int)), h) := xA (xC (E := fVar 1) rfl xN) (lenS (by omega))
    by_cases c1 : (0 : Int) < (s.cps.toList.length : Int)
    · have ch := fChain_e lt_W lt_W (f := fC (.int 0)) (k := fC (.int 7)) (a := .dat (.int 0)) (h1 := h) (d := .dat (.int 7)) (h4 := h) rfl ln (by rw [lt_i', decide_eq_true c1]) rfl
      by_cases c6 : (s.cps.toList.length : Int) < 7
      · have v : isN (.str s) = s.cps.toList.all lowB := by
          unfold isN
          dsimp only
          rw [decide_eq_true (by omega), decide_eq_true (by omega)]; rfl
        rw [lt_i', decide_eq_true c6] at ch
        refine xO (xNB (b := true) ch) ?_
        have sp : fStrip (fVar 1) (fC (.str "abcdefghijklmnopqrstuvwxyz")) [some x, some (.dat (.str s))] h = some (.dat (.str (Txt.stripChars s letters)), h) := by
          unfold fStrip
          show (if s.length ≤ sizeLine then ok (.str (Txt.stripChars s letters)) h else none) = _
          rw [if_pos (by omega)]
          rfl
        have q := strip_low s
        refine xB (x2 sp (B := fC (.str "")) rfl ?_)
        rw [eqW_strs, if_pos rfl, v, ← q]
        rfl
      · have v : isN (.str s) = false := by
          unfold isN
          dsimp only
          rw [decide_eq_false (show ¬ s.cps.toList.length ≤ 6 by omega)]; simp
        rw [lt_i', decide_eq_false c6] at ch
        rw [v]
        exact xOT2 (xNB (b := false) ch)
    · have v : isN (.str s) = false := by
        unfold isN
        dsimp only
        rw [decide_eq_false (show ¬ 1 ≤ s.cps.toList.length by omega)]; simp
      rw [v]
      exact xOT2 (xNB (b := false) (fChain_f lt_W lt_W (f := fC (.int 0)) (a := .dat (.int 0)) (h1 := h) rfl ln (by rw [lt_i', decide_eq_false c1])))
  | dict es => simp [gd] at hg
  | _ => exact xOT2 (xNB (b := false) i0)
noncomputable def nameL : SM := sIf (nameT 1) (sRet (fC (.bool false))) (sSkip)
theorem names_loop {x : W} (hm : m ≤ 25) : ∀ {ds : List D} {v : Option W}, gds m ds = true → (allN ds = true ∧ ∃ v', forL (gN 1) nameL ds [some x, v] h = some (.nx [some x, v'], h)) ∨ (allN ds = false ∧ forL (gN 1) nameL ds [some x, v] h = some (.rt (.dat (.bool false)), h))
  | [], v, _ => .inl ⟨rfl, v, rfl⟩
  | d :: ds, v, g => by
    rw [gds, Bool.and_eq_true] at g
    have e := nameT_ok (x := x) (h := h) hm g.1
    have al : allN (d :: ds) = (isN d && allN ds) := rfl
    rw [al]
    cases c : isN d with
    | false =>
      rw [c] at e
      refine .inr ⟨rfl, ?_⟩
      have b : nameL [some x, some (.dat d)] h = some (.rt (.dat (.bool false)), h) := (sIt e).trans (zR rfl)
      have k : gN 1 (.dat d) [some x, v] h = some [some x, some (.dat d)] := rfl
      simp only [forL, k, b]
    | true =>
      rw [c] at e
      have b : nameL [some x, some (.dat d)] h = some (.nx [some x, some (.dat d)], h) := sIfF e
      have k : gN 1 (.dat d) [some x, v] h = some [some x, some (.dat d)] := rfl
      rcases names_loop hm (ds := ds) (v := some (.dat d)) g.2 with ⟨a, v', q⟩ | ⟨a, q⟩
      · exact .inl ⟨by rw [a]; rfl, v', by simp only [forL, k, b]; exact q⟩
      · exact .inr ⟨by rw [a]; rfl, by simp only [forL, k, b]; exact q⟩
theorem zFr {IT : IM} {k : TM} {body rest : SM} {ds : List D} {w : W} {ρ : DL.Env} {h1 h2 : Hh} (hi : IT ρ h = some (ds, h1)) (e : forL k body ds ρ h1 = some (.rt w, h2)) : sSeq (sFor IT k body) rest ρ h = some (.rt w, h2) := by
  unfold sSeq sFor
  simp only [hi, sbnd, e]
theorem count_one {F : List Str} : (F.all fun y => decide (F.count y = 1)) = decide F.Nodup := by
  by_cases c : F.Nodup
  · rw [decide_eq_true c]
    refine List.all_eq_true.mpr fun y hy => decide_eq_true ?_
    have a := List.nodup_iff_count.mp c y
    have b := List.count_pos_iff.mpr hy
    omega
  · rw [decide_eq_false c]
    refine Bool.eq_false_iff.mpr fun q => c (List.nodup_iff_count.mpr fun y => ?_)
    by_cases hy : y ∈ F
    · have := of_decide_eq_true (List.all_eq_true.mp q y hy)
      omega
    · rw [List.count_eq_zero.mpr hy]; omega
theorem lawrow_x (hm : m ≤ 25) (hg : gd m d = true) (hl : costD d ≤ 1000000) : m__law_is_row [.dat d] h = some (.dat (.bool (rowB d)), h) := by
  have hz : sizeLine = 16777216 := rfl
  have i0 : f1 (isiW ["tuple"]) (fVar 0) [some (.dat d), none] h = some (.dat (.bool (["tuple"].any fun t => isT1 t d)), h) := isi_d rfl hg
  have no : ∀ z : Bool, sSeq (sIf (bOr (bNot (fB (f1 (isiW ["tuple"]) (fVar 0)))) (fB (f2 (eqW false) (fA lenW (fCons (fVar 0) (fNil))) (fC (.int 0))))) (sRet (fC (.bool false))) (sSkip))
      (sSeq (sFor (seqI (fVar 0)) (gN 1) nameL) (sRet (fA allW (fCons (fLc false (seqI (fVar 0)) (gN 1) (bYes) (f2 (eqW false) (fM isTp countT (fVar 0) (fCons (fVar 1) (fNil))) (fC (.int 1))) [1]) (fNil))))) [some (.dat d), none] h = some (.rt (.dat (.bool z)), h) → m__law_is_row [.dat d] h = some (.dat (.bool z), h) := fun z e => by
    unfold m__law_is_row
    refine fnM_rt (h' := h) (w := .dat (.bool z)) ?_ rfl leave_same'
    exact e
  cases d with
  | tuple ds =>
    have gs : gds m ds = true := by rw [gd] at hg; exact hg
    have dl := costDs_len ds
    have dc : costD (.tuple ds) = costDs ds + 3 := by rw [costD]
    have ln : fA lenW (fCons (fVar 0) (fNil)) [some (.dat (.tuple ds)), none] h = some (.dat (.int (ds.length : Int)), h) := xA (xC (E := fVar 0) rfl xN) len_tup
    by_cases c0 : ds.length = 0
    · have : ds = [] := List.length_eq_zero_iff.mp c0
      subst this
      exact no false (zRt ((sIt (xO (xNB (b := true) i0) (xB (x2 ln (B := fC (.int 0)) rfl (eq_i (decide_eq_true (by simp))))))).trans (zR rfl)))
    · have c0' : ds.isEmpty = false := by cases ds with
        | nil => exact absurd rfl c0
        | cons => rfl
      have e1 := xB (x2 (f := eqW false) ln (B := fC (.int 0)) rfl (eq_i (h := h) (decide_eq_false (by omega : ¬ (ds.length : Int) = 0))))
      rw [rowB_tup, c0', Bool.not_false, Bool.true_and]
      refine no _ ((zNx (sIfF (xO (xNB (b := true) i0) e1))).trans ?_)
      have si := xS (E := fVar 0) (x := .tuple ds) (ρ := [some (.dat (.tuple ds)), none]) (h := h) (h1 := h) rfl (.inr rfl)
      rcases names_loop (x := .dat (.tuple ds)) (h := h) hm (v := none) gs with ⟨ca, v', lp⟩ | ⟨ca, lp⟩
      · refine (zF si lp).trans (zR ?_)
        obtain ⟨F, rfl, hF⟩ := allN_strs ca
        rw [ca, Bool.true_and, nodD_map]
        rw [List.length_map] at dl
        have F0 : F ≠ [] := fun q => c0 (by rw [q]; rfl)
        have tp : isTp (.dat (.tuple (F.map .str))) h = true := by
          unfold isTp
          simp only [deref, rowD, rowS_strs]
          cases F with
          | nil => exact absurd rfl F0
          | cons => rfl
        have lc := lc_bool (k := gN 1) (f := f2 (eqW false) (fM isTp countT (fVar 0) (fCons (fVar 1) (fNil))) (fC (.int 1))) (ρ := [some (.dat (.tuple (F.map .str))), none]) (h := h) (fun d => match d with | .str y => decide (F.count y = 1) | _ => false) (xs := F.map .str) (by
          intro x hx
          obtain ⟨s, _, rfl⟩ := List.mem_map.mp hx
          refine ⟨[some (.dat (.tuple (F.map .str))), some (.dat (.str s))], rfl, x2 (B := fC (.int 1)) (x := .dat (.int (F.count s : Nat))) (h1 := h) ?_ rfl (eq_i ?_)⟩
          · have ct : countT (.dat (.tuple (F.map .str))) [.dat (.str s)] h = some (.dat (.int (F.count s : Nat)), h) := by
              unfold countT
              simp only [deref, rowS_strs]
              rfl
            unfold fM
            simp only [fVar, fCons, fNil, obnd, List.getElem?_cons_zero, List.getElem?_cons_succ, tp, if_true, ct]
          · by_cases q : F.count s = 1
            · rw [decide_eq_true (show ((F.count s : Nat) : Int) = 1 by omega)]; exact (decide_eq_true q).symm
            · rw [decide_eq_false (show ¬ ((F.count s : Nat) : Int) = 1 by omega)]; exact (decide_eq_false q).symm)
        have si' := xS (E := fVar 0) (x := .tuple (F.map .str)) (ρ := [some (.dat (.tuple (F.map .str))), v']) (h := h) (h1 := h) rfl (.inr rfl)
        have fl := xL (vs := [1]) si' lc (by rw [List.length_map, List.length_map, List.length_map]; omega)
        refine xA (m := allW) (xC fl xN) (all_b (h := h) ?_)
        rw [all_id, List.all_map, ← count_one]
        rfl
      · rw [ca]
        exact zFr si lp
  | dict es => simp [gd] at hg
  | _ => exact no false (zRt ((sIt (xOT2 (xNB (b := false) i0))).trans (zR rfl)))
end
section
variable {h : Hh}
theorem lc_g {k : TM} {f : EM} {ρ : DL.Env} (g : D → D) : ∀ {xs : List D}, (∀ x ∈ xs, ∃ ρ1, k (.dat x) ρ h = some ρ1 ∧ f ρ1 h = some (.dat (g x), h)) → lcL k bYes f ρ xs h = some (xs.map g, h)
  | [], _ => rfl
  | x :: xs, H => by
    obtain ⟨ρ1, e1, e2⟩ := H x List.mem_cons_self
    have ih := lc_g g (xs := xs) fun y hy => H y (List.mem_cons_of_mem _ hy)
    unfold lcL
    simp only [e1, bYes, obnd, if_true, e2, ih]
    rfl
structure Thn (d : D) : Prop where
  g : gd 22 d = true
  dep : PyData.depth d ≤ 8
  c : costD d ≤ 200000
theorem thn_seq {ds : List D} (g : ∀ d ∈ ds, gd 22 d = true) (dep : ∀ d ∈ ds, PyData.depth d ≤ 6) (c : costDs ds ≤ 100000) : Thn (.list ds) ∧ Thn (.tuple ds) := by
  have f : Fit 22 6 100000 ds := ⟨gds_iff.mpr g, depthAll_iff.mpr dep, c⟩
  obtain ⟨a1, a2, a3⟩ := f.list
  obtain ⟨b1, b2, b3⟩ := f.tuple
  exact ⟨⟨a1, by omega, by omega⟩, ⟨b1, by omega, by omega⟩⟩
theorem gd_name {s : Str} (h : NameOk s) : gd 20 (.str s) = true := by
  have e : s.length = s.cps.toList.length := by rw [Array.length_toList]; rfl
  have := h.2.1
  exact gd_of (by omega) (fun c hc => by have := h.2.2 c hc; omega)
theorem dep_str (s : Str) : PyData.depth (.str s) = 0 := by rw [PyData.depth]
theorem cost_strs : ∀ {F : List Str}, (∀ s ∈ F, NameOk s) → costDs (F.map .str) ≤ 1004 * F.length
  | [], _ => by simp [costDs]
  | s :: F, h => by
    have ih := cost_strs (F := F) fun t ht => h t (List.mem_cons_of_mem _ ht)
    have c := cost_str (gd_name (h s List.mem_cons_self)) (by omega)
    rw [List.map_cons, costDs, List.length_cons]
    omega
def g40 : D → D
  | .str s => .str (s ++ "x")
  | d => d
def p40 : D → D
  | .tuple [.str a, .str b] => .str (a ++ b)
  | d => d
def sA : Str := Txt.mul "abcdefghijklmnopqrst" 2
def sB : Str := Txt.mul "u" 20 ++ Txt.mul "v" 20
def x40 : List D := (signs sA).map g40
def y40 : List D := (zipD (signs sA) (signs sB)).map p40
theorem x40_fit : gd 22 (.tuple x40) = true ∧ PyData.depth (.tuple x40) ≤ 8 ∧ costD (.tuple x40) ≤ 200000 ∧ x40.length = 40 := by decide +kernel
theorem y40_fit : gd 22 (.tuple y40) = true ∧ PyData.depth (.tuple y40) ≤ 8 ∧ costD (.tuple y40) ≤ 200000 ∧ y40.length = 40 := by decide +kernel
theorem signs_mem {z : Str} {d : D} (hd : d ∈ signs z) : ∃ c, d = .str ⟨#[c]⟩ := by
  obtain ⟨c, _, rfl⟩ := List.mem_map.mp hd
  exact ⟨c, rfl⟩
theorem zipD_mem {xs ys : List D} {d : D} (hd : d ∈ zipD xs ys) : ∃ x y, x ∈ xs ∧ y ∈ ys ∧ d = .tuple [x, y] := by
  obtain ⟨i, e⟩ := List.getElem?_of_mem hd
  obtain ⟨x, y, e1, e2, e3⟩ := zipD_get e
  exact ⟨x, y, List.mem_of_getElem? e1, List.mem_of_getElem? e2, e3⟩
abbrev e00 (b : Nat) (F : List Str) (v2 v3 v4 v5 v6 : Option W) : DL.Env := [some (.ref b), some (.dat (rowT F)), v2, v3, v4, v5, v6, none, none, none]
theorem lc_x {b : Nat} {F : List Str} {v2 v3 v4 v5 v6 : Option W} : fA tupleW (fCons (fLc false (strI (f2 mulSW (fC (.str "abcdefghijklmnopqrst")) (fC (.int 2)))) (gN 7) (bYes) (f2 (addW false) (fVar 7) (fC (.str "x"))) [7]) (fNil)) (e00 b F v2 v3 v4 v5 v6) h = some (.dat (.tuple x40), h) := by
  refine xA (xC (w := .dat (.list x40)) ?_ xN) (xTup (.inl rfl))
  have si : strI (f2 mulSW (fC (.str "abcdefghijklmnopqrst")) (fC (.int 2))) (e00 b F v2 v3 v4 v5 v6) h = some (signs sA, h) := rfl
  refine xL (vs := [7]) si ?_ (by rw [x40_fit.2.2.2]; decide)
  refine lc_g g40 fun x hx => ?_
  obtain ⟨c, rfl⟩ := signs_mem hx
  exact ⟨[some (.ref b), some (.dat (rowT F)), v2, v3, v4, v5, v6, some (.dat (.str ⟨#[c]⟩)), none, none], rfl, rfl⟩
theorem lc_y {b : Nat} {F : List Str} {v2 v3 v4 v5 v6 : Option W} : fA tupleW (fCons (fLc false (zipTB (fCons (f2 mulSW (fC (.str "abcdefghijklmnopqrst")) (fC (.int 2))) (fCons (f2 (addW false) (f2 mulSW (fC (.str "u")) (fC (.int 20))) (f2 mulSW (fC (.str "v")) (fC (.int 20)))) (fNil)))) (gT 2 (gC (gN 8) (gC (gN 9) (gE)))) (bYes) (f2 (addW false) (fVar 8) (fVar 9)) [8, 9]) (fNil)) (e00 b F v2 v3 v4 v5 v6) h = some (.dat (.tuple y40), h) := by
  refine xA (xC (w := .dat (.list y40)) ?_ xN) (xTup (.inl rfl))
  have ad : addW false (.dat (.str (Txt.mul "u" 20))) (.dat (.str (Txt.mul "v" 20))) h = some (.dat (.str sB), h) := by
    have c : (Txt.mul "u" 20).length + (Txt.mul "v" 20).length ≤ sizeLine := by decide +kernel
    unfold addW
    simp only [deref, c, if_true]
    rfl
  have ga : (fCons (f2 mulSW (fC (.str "abcdefghijklmnopqrst")) (fC (.int 2))) (fCons (f2 (addW false) (f2 mulSW (fC (.str "u")) (fC (.int 20))) (f2 mulSW (fC (.str "v")) (fC (.int 20)))) (fNil))) (e00 b F v2 v3 v4 v5 v6) h = some ([.dat (.str sA), .dat (.str sB)], h) :=
    xC (E := f2 mulSW (fC (.str "abcdefghijklmnopqrst")) (fC (.int 2))) rfl (xC (x2 (A := f2 mulSW (fC (.str "u")) (fC (.int 20))) (B := f2 mulSW (fC (.str "v")) (fC (.int 20))) rfl rfl ad) xN)
  have ok : asciiB sA = true ∧ asciiB sB = true := by decide +kernel
  have si : zipTB (fCons (f2 mulSW (fC (.str "abcdefghijklmnopqrst")) (fC (.int 2))) (fCons (f2 (addW false) (f2 mulSW (fC (.str "u")) (fC (.int 20))) (f2 mulSW (fC (.str "v")) (fC (.int 20)))) (fNil))) (e00 b F v2 v3 v4 v5 v6) h = some (zipD (signs sA) (signs sB), h) := by
    unfold zipTB
    simp only [ga, obnd, ok, and_self, if_true]
  refine xL (vs := [8, 9]) si ?_ (by rw [y40_fit.2.2.2]; decide)
  refine lc_g p40 fun x hx => ?_
  obtain ⟨d1, d2, m1, m2, rfl⟩ := zipD_mem hx
  obtain ⟨c1, rfl⟩ := signs_mem m1
  obtain ⟨c2, rfl⟩ := signs_mem m2
  exact ⟨[some (.ref b), some (.dat (rowT F)), v2, v3, v4, v5, v6, none, some (.dat (.str ⟨#[c1]⟩)), some (.dat (.str ⟨#[c2]⟩))], rfl, rfl⟩
noncomputable def addB : SM := (sSeq (sAsg (fA (m__law_otherwise 12) (fCons (fVar 0) (fCons (fVar 1) (fNil)))) (gN 4))
    (sExpr (fM isL appendW (fVar 2) (fCons (fIf (fB (f2 (eqW false) (fA (m__law_take) (fCons (fVar 0) (fCons (fC (.int 3)) (fNil)))) (fC (.int 0)))) (fA (m__law_otherwise 12) (fCons (fVar 0) (fCons (fVar 4) (fNil)))) (fVar 4)) (fNil)))))
theorem add_ok {b c : Nat} {F : List Str} {v3 v4 v5 v6 : Option W} {g : Hh} {ds : List D} (hb : BoxAt g b c) (hc : c ≤ 500000) (gm : gd 20 (rowT F) = true) (dm : PyData.depth (rowT F) ≤ 1) (cm : costD (rowT F) ≤ 10000) (td : ∀ d ∈ ds, Thn d) (ld : ds.length ≤ 1000) :
    ∃ x w g', addB (e00 b F (some (.ref g.length)) v3 v4 v5 v6) (g ++ [some (.lst ds)]) = some (.nx (e00 b F (some (.ref g.length)) v3 (some (.dat w)) v5 v6), g' ++ [some (.lst (ds ++ [x]))]) ∧ Thn x ∧ BoxAt g' b (c + 250) ∧ Only b g g' := by
  have hz : sizeLine = 16777216 := rfl
  have lb := hb.lt
  obtain ⟨y, h1, e1, oy, b1, o1⟩ := other_ok (m := 20) (by omega) (by omega) 12 (d := rowT F) (h := g ++ [some (.lst ds)]) (c := c) (by omega) gm (by omega) (box_one hb) (by omega)
  obtain ⟨g1, rfl, og1⟩ := only_one lb o1
  have l1 : g1.length = g.length := og1.len
  have dy := oy.dep
  have cy := oy.c
  obtain ⟨t, h2, e2, r0, r1, b2, o2⟩ := take_ok (n := 3) b1 (by omega) (by omega) (by omega)
  obtain ⟨g2, rfl, og2⟩ := only_one (by omega) o2
  have l2 : g2.length = g1.length := og2.len
  let E : DL.Env := e00 b F (some (.ref g.length)) v3 (some (.dat y)) v5 v6
  have s1 : sAsg (fA (m__law_otherwise 12) (fCons (fVar 0) (fCons (fVar 1) (fNil)))) (gN 4) (e00 b F (some (.ref g.length)) v3 v4 v5 v6) (g ++ [some (.lst ds)]) = some (.nx E, g1 ++ [some (.lst ds)]) := by
    unfold sAsg
    rw [xA (xC (E := fVar 0) (w := .ref b) rfl (xC (E := fVar 1) (w := .dat (rowT F)) rfl xN)) e1]
    rfl
  have tt : fB (f2 (eqW false) (fA (m__law_take) (fCons (fVar 0) (fCons (fC (.int 3)) (fNil)))) (fC (.int 0))) E (g1 ++ [some (.lst ds)]) = some (decide (t = 0), g2 ++ [some (.lst ds)]) := xBh (x2 (f := eqW false) (xA (xC (E := fVar 0) rfl (xC (E := fC (.int 3)) rfl xN)) e2) (B := fC (.int 0)) rfl (eq_i rfl))
  have fin : ∀ (x : D) (g3 : Hh), g3.length = g.length → fIf (fB (f2 (eqW false) (fA (m__law_take) (fCons (fVar 0) (fCons (fC (.int 3)) (fNil)))) (fC (.int 0)))) (fA (m__law_otherwise 12) (fCons (fVar 0) (fCons (fVar 4) (fNil)))) (fVar 4) E (g1 ++ [some (.lst ds)]) = some (.dat x, g3 ++ [some (.lst ds)]) →
      addB (e00 b F (some (.ref g.length)) v3 v4 v5 v6) (g ++ [some (.lst ds)]) = some (.nx E, g3 ++ [some (.lst (ds ++ [x]))]) := fun x g3 l3 ex => by
    unfold addB
    refine (zNx s1).trans ?_
    have hn1 : (g1 ++ [some (MO.lst ds)])[g.length]? = some (some (.lst ds)) := app_get l1
    have hn3 : (g3 ++ [some (MO.lst ds)])[g.length]? = some (some (.lst ds)) := app_get l3
    have := zAppE (A := fVar 2) (n := g.length) (ds := ds) (d := x) (ρ := E) (h := g1 ++ [some (.lst ds)]) (h1 := g1 ++ [some (.lst ds)]) (h2 := g3 ++ [some (.lst ds)]) rfl hn1 ex hn3 (by omega)
    rw [app_set l3] at this
    exact this
  by_cases c0 : t = 0
  · rw [decide_eq_true c0] at tt
    obtain ⟨z, h3, e3, oz, b3, o3⟩ := other_ok (m := 21) (by omega) (by omega) 12 (d := y) (h := g2 ++ [some (.lst ds)]) (c := c + 10 * 12 + 1) (by omega) oy.g (by omega) b2 (by omega)
    obtain ⟨g3, rfl, og3⟩ := only_one (by omega) o3
    have dz := oz.dep
    have cz := oz.c
    exact ⟨z, y, g3, fin z g3 (og3.len.trans (l2.trans l1)) (xIfT tt (xA (xC (E := fVar 0) rfl (xC (E := fVar 4) rfl xN)) e3)), ⟨oz.g, by omega, by omega⟩, (box_bk (by have := og3.len; omega) b3).mono (by omega), (og1.trans og2).trans og3⟩
  · rw [decide_eq_false c0] at tt
    exact ⟨y, y, g2, fin y g2 (l2.trans l1) (xIfF tt rfl), ⟨gd_up (by omega) oy.g, by omega, by omega⟩, (box_bk (by omega) b2).mono (by omega), og1.trans og2⟩
theorem adds_ok {b : Nat} {F : List Str} {v5 v6 : Option W} (gm : gd 20 (rowT F) = true) (dm : PyData.depth (rowT F) ≤ 1) (cm : costD (rowT F) ≤ 10000) : ∀ (zs : List D) (g : Hh) (ds : List D) (v3 v4 : Option W) (c : Nat), BoxAt g b c → c + 250 * zs.length ≤ 400000 → (∀ d ∈ ds, Thn d) → ds.length + zs.length ≤ 100 → (∀ n, isR n v3 = false) → (∀ n, isR n v4 = false) →
    ∃ ds' u3 u4 g', forL (gN 3) addB zs (e00 b F (some (.ref g.length)) v3 v4 v5 v6) (g ++ [some (.lst ds)]) = some (.nx (e00 b F (some (.ref g.length)) u3 u4 v5 v6), g' ++ [some (.lst ds')]) ∧ (∀ d ∈ ds', Thn d) ∧ ds'.length ≤ ds.length + zs.length ∧ BoxAt g' b (c + 250 * zs.length) ∧ Only b g g' ∧ (∀ n, isR n u3 = false) ∧ (∀ n, isR n u4 = false)
  | [], g, ds, v3, v4, c, hb, _, td, _, i3, i4 => ⟨ds, v3, v4, g, rfl, td, by simp, hb.mono (by omega), Only.refl b g, i3, i4⟩
  | z :: zs, g, ds, v3, v4, c, hb, hc, td, hl, _, _ => by
    rw [List.length_cons] at hc hl
    obtain ⟨x, w, g1, e1, tx, b1, o1⟩ := add_ok (v3 := some (.dat z)) (v4 := v4) (v5 := v5) (v6 := v6) hb (by omega) gm dm cm td (by omega)
    have l1 : g1.length = g.length := o1.len
    obtain ⟨ds', u3, u4, g', e2, td', ld', b2, o2, i3, i4⟩ := adds_ok gm dm cm zs g1 (ds ++ [x]) (some (.dat z)) (some (.dat w)) (c + 250) b1 (by omega) (fun d hd => by
      rcases List.mem_append.mp hd with h | h
      · exact td d h
      · rw [List.mem_singleton] at h
        rw [h]; exact tx) (by rw [List.length_append]; show ds.length + 1 + zs.length ≤ 100; omega) (fun _ => rfl) (fun _ => rfl)
    rw [l1] at e2
    refine ⟨ds', u3, u4, g', ?_, td', by rw [List.length_append] at ld'; rw [List.length_cons]; have : [x].length = 1 := rfl; omega, b2.mono (by rw [List.length_cons]; omega), o1.trans o2, i3, i4⟩
    have k : gN 3 (.dat z) (e00 b F (some (.ref g.length)) v3 v4 v5 v6) (g ++ [some (.lst ds)]) = some (e00 b F (some (.ref g.length)) (some (.dat z)) v4 v5 v6) := rfl
    unfold forL
    simp only [k, e1]
    exact e2
noncomputable def chkB : SM := (sSeq (sPar (fCons (fA reprA (fCons (fVar 4) (fNil))) (fCons (fA (m__law_is_row) (fCons (fVar 4) (fNil))) (fNil))) [5, 6])
    (sIf (bOr (bNot (fB (fA (m__law_same 12) (fCons (fA (lstW false) (fCons (fA (m_is_row) (fCons (fVar 4) (fNil))) (fCons (fA (kwM 1 [0] (m_is_row)) (fCons (fVar 4) (fNil))) (fNil)))) (fCons (fA (lstW false) (fCons (fVar 6) (fCons (fVar 6) (fNil)))) (fNil)))))) (fB (f2 (eqW true) (fA reprA (fCons (fVar 4) (fNil))) (fVar 5)))) (sRet (fC (.bool false))) (sSkip)))
theorem xKk {n : Nat} {is : List Nat} {m : FM} {ws l : List W} {r : Option (W × Hh)} (hn : ws.length = n) (hp : permL is ws = some l) (hm : m l h = r) : kwM n is m ws h = r := by
  unfold kwM permM
  rw [if_pos hn, hp]
  exact hm
theorem chk_ok {b : Nat} {F : List Str} {v2 v3 v5 v6 : Option W} {d : D} (t : Thn d) : ∃ v5' v6', chkB (e00 b F v2 v3 (some (.dat d)) v5 v6) h = some (.nx (e00 b F v2 v3 (some (.dat d)) v5' v6'), h) := by
  have hz : sizeLine = 16777216 := rfl
  have td := t.dep
  have tc := t.c
  have rp := reprA_ok (h := h) (m := 22) (by omega) t.g (by omega) (by omega)
  have lr := lawrow_x (h := h) (m := 22) (by omega) t.g (by omega)
  have ir := isrow_x (h := h) (m := 22) (by omega) t.g (by omega)
  let E : DL.Env := e00 b F v2 v3 (some (.dat d)) (some (.dat (.str d.shown))) (some (.dat (.bool (rowB d))))
  refine ⟨some (.dat (.str d.shown)), some (.dat (.bool (rowB d))), ?_⟩
  unfold chkB
  refine (zP (ρ1 := E) (ws := [.dat (.str d.shown), .dat (.bool (rowB d))]) (xC (xA (xC (E := fVar 4) rfl xN) rp) (xC (xA (xC (E := fVar 4) rfl xN) lr) xN)) rfl rfl).trans ?_
  have l1 : fA (lstW false) (fCons (fA (m_is_row) (fCons (fVar 4) (fNil))) (fCons (fA (kwM 1 [0] (m_is_row)) (fCons (fVar 4) (fNil))) (fNil))) E h = some (.dat (.list [.bool (rowB d), .bool (rowB d)]), h) :=
    xA (xC (xA (xC (E := fVar 4) rfl xN) ir) (xC (xA (xC (E := fVar 4) rfl xN) (xKk (l := [.dat d]) rfl rfl ir)) xN)) (xLst (ds := [.bool (rowB d), .bool (rowB d)]) rfl (by show 2 ≤ sizeLine; omega))
  have l2 : fA (lstW false) (fCons (fVar 6) (fCons (fVar 6) (fNil))) E h = some (.dat (.list [.bool (rowB d), .bool (rowB d)]), h) :=
    xA (xC (E := fVar 6) rfl (xC (E := fVar 6) rfl xN)) (xLst (ds := [.bool (rowB d), .bool (rowB d)]) rfl (by show 2 ≤ sizeLine; omega))
  have sm := xA (xC l1 (xC l2 xN)) (same_two (h := h) (rowB d))
  have ne : f2 (eqW true) (fA reprA (fCons (fVar 4) (fNil))) (fVar 5) E h = some (.dat (.bool false), h) := x2 (xA (xC (E := fVar 4) rfl xN) rp) (B := fVar 5) rfl (by
    rw [eqW_strs, if_pos rfl, decide_eq_true rfl]; rfl)
  exact sIfF (xO (xNB (b := true) sm) (xB ne))
theorem chks_ok {b : Nat} {F : List Str} {v2 v3 : Option W} : ∀ (ds : List D) (v4 v5 v6 : Option W), (∀ d ∈ ds, Thn d) → ∃ u4 u5 u6, forL (gN 4) chkB ds (e00 b F v2 v3 v4 v5 v6) h = some (.nx (e00 b F v2 v3 u4 u5 u6), h)
  | [], v4, v5, v6, _ => ⟨v4, v5, v6, rfl⟩
  | d :: ds, v4, v5, v6, td => by
    obtain ⟨w5, w6, e1⟩ := chk_ok (b := b) (F := F) (v2 := v2) (v3 := v3) (v5 := v5) (v6 := v6) (h := h) (td d List.mem_cons_self)
    obtain ⟨u4, u5, u6, e2⟩ := chks_ok ds (some (.dat d)) w5 w6 fun x hx => td x (List.mem_cons_of_mem _ hx)
    refine ⟨u4, u5, u6, ?_⟩
    have k : gN 4 (.dat d) (e00 b F v2 v3 v4 v5 v6) h = some (e00 b F v2 v3 (some (.dat d)) v5 v6) := rfl
    unfold forL
    simp only [k, e1]
    exact e2
end
theorem zFrz0 {i n : Nat} {f : SM} {o : MO} {ρ : DL.Env} {g : Hh} (e1 : ρ[i]? = some (some (.ref n))) (e2 : g[n]? = some (some o)) (hr : (ρ.set i none).any (isR n) = false) (ht : isTab o = false) : sFrz i f ρ g = f (ρ.set i (some (.dat (moD o)))) (g.set n none) := by
  unfold sFrz frz
  simp only [e1, e2, hr, ht, Bool.or_false, Bool.false_eq_true, if_false]
theorem xAddT {a b : List D} {h : Hh} (hl : a.length + b.length ≤ sizeLine) : addW false (.dat (.tuple a)) (.dat (.tuple b)) h = some (.dat (.tuple (a ++ b)), h) := by
  unfold addW
  simp only [deref, hl, if_true]
  rfl
theorem cut_to1 {α : Type} (xs : List α) : cutG xs none (some (1 : Int)) = xs.take 1 := by
  have e : HT.sIx xs.length xs.length (some ((1 : Nat) : Int)) = min 1 xs.length := HT.sIx_nat _ _ _
  have e0 : HT.sIx xs.length 0 none = 0 := rfl
  unfold cutG
  rw [show (some (1 : Int)) = some ((1 : Nat) : Int) from rfl, e, e0]
  simp only [List.drop_zero, Nat.sub_zero]
  rw [List.take_eq_take_iff]
  omega
def thA (F : List Str) : List D := [rowT F, .list (F.map .str), .tuple [], .list [], .none, .str "a", .tuple [.str "a", .str "a"], .tuple [.str "abcdef"], .tuple [.str "abcdefg"], .tuple [.str "a", .str "B"], .tuple [.str "a", .str ""], .tuple [.int 1]]
def thB (F : List Str) : List D := [.tuple (F.map .str ++ (F.map .str).take 1), .tuple (F.map .str ++ [.str "a-b"]), .tuple [rowT F]]
theorem th_fit {F : List Str} (nF : ∀ s ∈ F, NameOk s) (lF : F.length ≤ 8) : (∀ d ∈ thA F ++ thB F, Thn d) ∧ gd 20 (rowT F) = true ∧ PyData.depth (rowT F) ≤ 1 ∧ costD (rowT F) ≤ 10000 := by
  have cF := cost_strs nF
  have gF : ∀ d ∈ F.map PyData.str, gd 20 d = true := fun d hd => by
    obtain ⟨s, hs, rfl⟩ := List.mem_map.mp hd
    exact gd_name (nF s hs)
  have dF : ∀ d ∈ F.map PyData.str, PyData.depth d = 0 := fun d hd => by
    obtain ⟨s, _, rfl⟩ := List.mem_map.mp hd
    exact dep_str s
  have gF2 : ∀ d ∈ F.map PyData.str, gd 22 d = true := fun d hd => gd_up (by omega) (gF d hd)
  have r1 : gd 20 (rowT F) = true := by unfold rowT; rw [gd]; exact gds_iff.mpr gF
  have r2 : PyData.depth (rowT F) ≤ 1 := by
    unfold rowT
    rw [PyData.depth]
    have := depthAll_iff (k := 0).mpr fun d hd => Nat.le_of_eq (dF d hd)
    omega
  have r3 : costD (rowT F) ≤ 10000 := by unfold rowT; rw [costD]; omega
  have t0 := thn_seq (ds := F.map .str) gF2 (fun d hd => by rw [dF d hd]; omega) (by omega)
  have c1 : costDs ((F.map PyData.str).take 1) ≤ costDs (F.map PyData.str) := by
    have := costDs_app ((F.map PyData.str).take 1) ((F.map PyData.str).drop 1)
    rw [List.take_append_drop] at this
    omega
  have t1 := (thn_seq (ds := F.map .str ++ (F.map .str).take 1) (fun d hd => (List.mem_append.mp hd).elim (gF2 d) fun h => gF2 d (List.mem_of_mem_take h)) (fun d hd => by
    rw [(List.mem_append.mp hd).elim (dF d) fun h => dF d (List.mem_of_mem_take h)]; omega) (by rw [costDs_app]; omega)).2
  have gx : gd 22 (.str "a-b") = true := by decide +kernel
  have cx : costDs [PyData.str "a-b"] ≤ 1000 := by decide +kernel
  have t2 := (thn_seq (ds := F.map .str ++ [.str "a-b"]) (fun d hd => (List.mem_append.mp hd).elim (gF2 d) fun h => by rw [List.mem_singleton] at h; rw [h]; exact gx) (fun d hd => by
    have : PyData.depth d = 0 := (List.mem_append.mp hd).elim (dF d) fun h => by rw [List.mem_singleton] at h; rw [h]; exact dep_str _
    omega) (by rw [costDs_app]; omega)).2
  have t3 := (thn_seq (ds := [rowT F]) (fun d hd => by rw [List.mem_singleton] at hd; rw [hd]; exact gd_up (by omega) r1) (fun d hd => by rw [List.mem_singleton] at hd; rw [hd]; omega) (by rw [costDs_one]; omega)).2
  have rest : ∀ d ∈ [PyData.tuple [], .list [], .none, .str "a", .tuple [.str "a", .str "a"], .tuple [.str "abcdef"], .tuple [.str "abcdefg"], .tuple [.str "a", .str "B"], .tuple [.str "a", .str ""], .tuple [.int 1]], gd 22 d = true ∧ PyData.depth d ≤ 8 ∧ costD d ≤ 200000 := by
    simp only [List.forall_mem_cons, List.not_mem_nil, false_imp_iff, implies_true, and_true]
    decide +kernel
  refine ⟨fun d hd => ?_, r1, r2, r3⟩
  unfold thA thB at hd
  rw [List.cons_append, List.cons_append, List.mem_cons, List.mem_cons] at hd
  rcases hd with rfl | rfl | hd
  · exact t0.2
  · exact t0.1
  · rcases List.mem_append.mp hd with hd | hd
    · obtain ⟨a1, a2, a3⟩ := rest d hd
      exact ⟨a1, a2, a3⟩
    · simp only [List.mem_cons, List.not_mem_nil, or_false] at hd
      rcases hd with rfl | rfl | rfl
      · exact t1
      · exact t2
      · exact t3
theorem right_ok (h : Hh) (b c : Nat) (hb : BoxAt h b c) (hc : c ≤ 4 * 8000) : ∃ h', m__law_right [.ref b] h = some (.dat (.bool true), h') ∧ BoxAt h' b (c + 8000) ∧ Only b h h' := by
  have hz : sizeLine = 16777216 := rfl
  obtain ⟨F, g, e1, cr, b1, o1⟩ := crew_ok (most := 8) hb (by omega) (by omega) (by omega)
  have nF := cr.names
  obtain ⟨tA, gm, dm, cm⟩ := th_fit nF cr.le
  have lb := hb.lt
  have gl : g.length = h.length := o1.len
  let X2 : List D := (thA F ++ thB F ++ [.tuple x40]) ++ [.tuple y40]
  have tX : ∀ d ∈ X2, Thn d := fun d hd => by
    rcases List.mem_append.mp hd with hd | hd
    · rcases List.mem_append.mp hd with hd | hd
      · exact tA d hd
      · rw [List.mem_singleton] at hd; rw [hd]; exact ⟨x40_fit.1, x40_fit.2.1, x40_fit.2.2.1⟩
    · rw [List.mem_singleton] at hd; rw [hd]; exact ⟨y40_fit.1, y40_fit.2.1, y40_fit.2.2.1⟩
  have lX : X2.length = 17 := rfl
  obtain ⟨ds, u3, u4, g1, ea, td, ld, b5, o5, i3, i4⟩ := adds_ok (F := F) (v5 := none) (v6 := none) gm dm cm (rngD 0 12) g X2 none none (c + 3 + 8) b1 (by rw [rng_len]; omega) tX (by rw [rng_len, lX]; omega) (fun _ => rfl) (fun _ => rfl)
  rw [rng_len] at b5
  have g1l : g1.length = g.length := o5.len
  obtain ⟨x4, x5, x6, ec⟩ := chks_ok (b := b) (F := F) (v2 := some (.dat (.list ds))) (v3 := u3) (h := g1 ++ [none]) ds u4 none none td
  have O : Only b h g1 := o1.trans o5
  have bg1 : BoxAt g1 b (c + 8000) := b5.mono (by omega)
  refine ⟨g1, ?_, bg1, O⟩
  have lv : leave false h (.dat (.bool true)) (g1 ++ [none]) = some (.dat (.bool true), g1) := by
    have tk2 : (g1 ++ [none]).take h.length = g1 := by rw [← gl, ← g1l]; exact List.take_left
    have := leave_dat (h := h) (h' := g1 ++ [none]) (d := .bool true) (by rw [tk2]; exact live_only hb bg1 O)
    rw [tk2] at this
    exact this
  have eq : m__law_right = fnM false 1 10 (sSeq (sAsg (fA tupleW (fCons (fA (m__law_crew) (fCons (fVar 0) (fCons (fC (.int 8)) (fNil)))) (fNil))) (gN 1))
    (sSeq (sAsg (fA (lstW false) (fCons (fVar 1) (fCons (fA (listW false) (fCons (fVar 1) (fNil))) (fCons (fA tupW (fNil)) (fCons (fA (lstW false) (fNil)) (fCons (fC .none) (fCons (fC (.str "a")) (fCons (fA tupW (fCons (fC (.str "a")) (fCons (fC (.str "a")) (fNil)))) (fCons (fA tupW (fCons (fC (.str "abcdef")) (fNil))) (fCons (fA tupW (fCons (fC (.str "abcdefg")) (fNil))) (fCons (fA tupW (fCons (fC (.str "a")) (fCons (fC (.str "B")) (fNil)))) (fCons (fA tupW (fCons (fC (.str "a")) (fCons (fC (.str "")) (fNil)))) (fCons (fA tupW (fCons (fC (.int 1)) (fNil))) (fNil)))))))))))))) (gN 2))
    (sSeq (sAsg (f2 (addW true) (fVar 2) (fA (lstW false) (fCons (f2 (addW false) (fVar 1) (fSl false (fVar 1) (oNone) (oSome (fC (.int 1))))) (fCons (f2 (addW false) (fVar 1) (fA tupW (fCons (fC (.str "a-b")) (fNil)))) (fCons (fA tupW (fCons (fVar 1) (fNil))) (fNil)))))) (gN 2))
    (sSeq (sExpr (fM isL appendW (fVar 2) (fCons (fA tupleW (fCons (fLc false (strI (f2 mulSW (fC (.str "abcdefghijklmnopqrst")) (fC (.int 2)))) (gN 7) (bYes) (f2 (addW false) (fVar 7) (fC (.str "x"))) [7]) (fNil))) (fNil))))
    (sSeq (sExpr (fM isL appendW (fVar 2) (fCons (fA tupleW (fCons (fLc false (zipTB (fCons (f2 mulSW (fC (.str "abcdefghijklmnopqrst")) (fC (.int 2))) (fCons (f2 (addW false) (f2 mulSW (fC (.str "u")) (fC (.int 20))) (f2 mulSW (fC (.str "v")) (fC (.int 20)))) (fNil)))) (gT 2 (gC (gN 8) (gC (gN 9) (gE)))) (bYes) (f2 (addW false) (fVar 8) (fVar 9)) [8, 9]) (fNil))) (fNil))))
    (sSeq (sFor (rng1I (fCons (fC (.int 12)) (fNil))) (gN 3) addB)
    (sFrz 2 (sSeq (sFor (seqI (fVar 2)) (gN 4) chkB) (sRet (fC (.bool true)))))))))))  := rfl
  rw [eq]
  refine fnM_rt (h' := g1 ++ [none]) (w := .dat (.bool true)) ?_ rfl lv
  show sSeq _ _ [some (.ref b), none, none, none, none, none, none, none, none, none] h = _
  refine (zA (ρ1 := e00 b F none none none none none) (xA (xC (xA (xC (E := fVar 0) rfl (xC (E := fC (.int 8)) rfl xN)) e1) xN) (xTup (.inl rfl))) rfl).trans ?_
  have nA : ∀ (ws : List W) (ds : List D) {gs : AM} {ρ : DL.Env} {h1 : Hh}, gs ρ h1 = some (ws, h1) → dats ws = some ds → ds.length ≤ 100 → fA tupW gs ρ h1 = some (.dat (.tuple ds), h1) := fun ws ds {gs ρ h1} a e l => xA a (xTp e (by omega))
  refine (zA (ρ1 := e00 b F (some (.dat (.list (thA F)))) none none none none) (w := .dat (.list (thA F))) (h1 := g) (xA (ws := (thA F).map .dat) (h1 := g) rfl (xLst (ds := thA F) rfl (by show 12 ≤ sizeLine; omega))) rfl).trans ?_
  have s1 : fSl false (fVar 1) (oNone) (oSome (fC (.int 1))) (e00 b F (some (.dat (.list (thA F)))) none none none none) g = some (.dat (.tuple ((F.map .str).take 1)), g) := by
    unfold fSl oNone oSome
    show cutW false (.dat (.tuple (F.map .str))) none (some 1) g = _
    unfold cutW
    simp only [deref, cut_to1]
    rfl
  have lF := cr.le
  have a1 : f2 (addW false) (fVar 1) (fSl false (fVar 1) (oNone) (oSome (fC (.int 1)))) (e00 b F (some (.dat (.list (thA F)))) none none none none) g = some (.dat (.tuple (F.map .str ++ (F.map .str).take 1)), g) := x2 (A := fVar 1) (x := .dat (rowT F)) rfl s1 (xAddT (by rw [List.length_take, List.length_map]; omega))
  have a2 : f2 (addW false) (fVar 1) (fA tupW (fCons (fC (.str "a-b")) (fNil))) (e00 b F (some (.dat (.list (thA F)))) none none none none) g = some (.dat (.tuple (F.map .str ++ [.str "a-b"])), g) := x2 (A := fVar 1) (B := fA tupW (fCons (fC (.str "a-b")) (fNil))) (x := .dat (rowT F)) (y := .dat (.tuple [.str "a-b"])) rfl rfl (xAddT (by rw [List.length_map]; show F.length + 1 ≤ _; omega))
  have aB : fA (lstW false) (fCons (f2 (addW false) (fVar 1) (fSl false (fVar 1) (oNone) (oSome (fC (.int 1))))) (fCons (f2 (addW false) (fVar 1) (fA tupW (fCons (fC (.str "a-b")) (fNil)))) (fCons (fA tupW (fCons (fVar 1) (fNil))) (fNil)))) (e00 b F (some (.dat (.list (thA F)))) none none none none) g = some (.dat (.list (thB F)), g) :=
    xA (xC a1 (xC a2 (xC (E := fA tupW (fCons (fVar 1) (fNil))) (w := .dat (.tuple [rowT F])) rfl xN))) (xLst (ds := thB F) rfl (by show 3 ≤ sizeLine; omega))
  have ad3 : addW true (.dat (.list (thA F))) (.dat (.list (thB F))) g = some (.ref g.length, g ++ [some (.lst (thA F ++ thB F))]) := rfl
  refine (zA (ρ1 := e00 b F (some (.ref g.length)) none none none none) (x2 (f := addW true) (A := fVar 2) rfl aB ad3) rfl).trans ?_
  have hn0 : (g ++ [some (MO.lst (thA F ++ thB F))])[g.length]? = some (some (.lst (thA F ++ thB F))) := app_get rfl
  refine (zApp (A := fVar 2) (n := g.length) (ds := thA F ++ thB F) (d := .tuple x40) (ρ := e00 b F (some (.ref g.length)) none none none none) rfl hn0 lc_x hn0 (by show 15 < sizeLine; omega)).trans ?_
  rw [app_set rfl]
  have hn1 : (g ++ [some (MO.lst (thA F ++ thB F ++ [.tuple x40]))])[g.length]? = some (some (.lst (thA F ++ thB F ++ [.tuple x40]))) := app_get rfl
  refine (zApp (A := fVar 2) (n := g.length) (ds := thA F ++ thB F ++ [.tuple x40]) (d := .tuple y40) (ρ := e00 b F (some (.ref g.length)) none none none none) rfl hn1 lc_y hn1 (by show 16 < sizeLine; omega)).trans ?_
  rw [app_set rfl]
  refine (zF (ds := rngD 0 12) rfl ea).trans ?_
  have hn : (g1 ++ [some (MO.lst ds)])[g.length]? = some (some (.lst ds)) := app_get g1l
  have st : (g1 ++ [some (MO.lst ds)]).set g.length none = g1 ++ [none] := app_set g1l
  have ne1 : decide (b = g.length) = false := decide_eq_false (by omega)
  have fz := zFrz0 (i := 2) (n := g.length) (f := sSeq (sFor (seqI (fVar 2)) (gN 4) chkB) (sRet (fC (.bool true)))) (o := .lst ds) (ρ := e00 b F (some (.ref g.length)) u3 u4 none none) (g := g1 ++ [some (.lst ds)]) rfl hn (by
    simp only [e00, List.set_cons_zero, List.set_cons_succ, List.any_cons, List.any_nil, isR_dat, isR_none, isR_ref, i3, i4, ne1, Bool.or_false]) rfl
  rw [fz, st]
  refine (zF (ds := ds) (ρ2 := e00 b F (some (.dat (.list ds))) u3 x4 x5 x6) (h2 := g1 ++ [none]) (xS (E := fVar 2) (x := .list ds) rfl (.inl rfl)) ec).trans (zR rfl)
theorem law_true (ns : List Int) (hl : ns.length ≤ 63) : ∃ h, m_law [.scr ns] [] = some (.dat (.bool true), h) := by
  have q : m_law = lawM 4 m__law_right := rfl
  rw [q]
  exact law_ok (t := 4) (cost := 8000) rfl (by omega) (by omega) (by decide) right_ok ns hl
end LW
set_option maxHeartbeats 4000000
namespace LW
open PySem PySem.Spec PyProof.Rows L2 DL
def topS (i : Nat) : Stmt := PySem.Challenge.pw_standby_k00_rows_or_not.main.body.getD i (.Pass ⟨0, 0, 0, 0⟩)
section
variable [HW] {K : PySem.W.Frag} {mg : Str → Option Value} {base : Heap}
abbrev s_is_name : Stmt := topS 3
abbrev N_is_name : List Str := ["thing", "sign"]
theorem sc_is_name : FnScope N_is_name ["thing"] (defScope s_is_name) := ⟨rfl, rfl, rfl, by decide +kernel, rfl, by decide +kernel, by decide +kernel⟩
theorem ok_is_name (f : Addr) (fd : FuncData) (F : Fun K "is_name" "is_name" s_is_name f fd) (hm : mg "is_name" = some (.ref f)) (B : Bi mg) (y_LONGEST_NAME : ∃ t, mg "LONGEST_NAME" = some (.int 6 t)) (y_LETTERS : ∃ t, mg "LETTERS" = some (.str "abcdefghijklmnopqrstuvwxyz" t))  : GD HW.P HW.w K mg base 1 "is_name" s_is_name ["thing"] m_is_name := gd_ok false F hm sc_is_name fun cdv A outer s H E hr =>
    ds_one (ds_ret (d_and (d_isi B.isinstance B.str bt_str (.inr (.inr (.inl rfl))) (dv 0 (pv 0))) (d_and (d_chain (op_le.or op_le_str) s_lt (op_le.or op_le_str) s_lt (d_int) (d_len B.len (da_cons (dv 0 (pv 0)) (da_nil))) (d_gint y_LONGEST_NAME)) (d_one (d_all rfl B.all (da_cons (d_lc false (own := [("sign", 1)]) rfl sc_is_name.nd (di_str (dv 0 (pv 0))) (blkOk_by (N := N_is_name) (sc := defScope s_is_name) (by decide +kernel)) (fun _ _ _ _ _ => dg_name 1 (pg_name (i := 1) sc_is_name.nd rfl (Or.inl rfl))) (fun _ _ _ _ _ => dts_nil) (fun _ _ _ _ _ => d_in' hr.room (dv 1 (pv 1)) (d_gstr y_LETTERS)) (by decide)) (da_nil)))))))
abbrev s__law_box : Stmt := topS 6
abbrev N__law_box : List Str := ["_law_script", "_law_k", "_law_cell"]
theorem sc__law_box : FnScope N__law_box ["_law_script", "_law_k"] (defScope s__law_box) := ⟨rfl, rfl, rfl, by decide +kernel, rfl, by decide +kernel, by decide +kernel⟩
theorem ok__law_box (f : Addr) (fd : FuncData) (F : Fun K "_law_box" "_law_box" s__law_box f fd) (hm : mg "_law_box" = some (.ref f)) (B : Bi mg)   : GD HW.P HW.w K mg base 1 "_law_box" s__law_box ["_law_script", "_law_k"] m__law_box := gd_ok true F hm sc__law_box fun cdv A outer s H E hr =>
    ds_cons (ds_set (ps_set (i := 2) sc__law_box.nd rfl (Or.inl rfl) (d_int)))
    (ds_cons (ds_if (t_lt (dv 1 (pv 1)) (d_len B.len (da_cons (dv 0 (pv 0)) (da_nil)))) (ds_one (ds_set (ps_set (i := 2) sc__law_box.nd rfl (Or.inl rfl) (d_idx hr.room (dv 0 (pv 0)) (dv 1 (pv 1)) (fun _ _ => rfl))))) (ds_nil))
    (ds_one (ds_ret (d_lst true (da_cons (d_mul false (d_abs B.abs (da_cons (dv 2 (pv 2)) (da_nil))) (d_intC B.int (da_cons (d_ge (d_abs B.abs (da_cons (dv 2 (pv 2)) (da_nil))) (d_pow (d_int) (d_int))) (da_nil)))) (da_cons (d_add false (d_add false (d_mod (dv 2 (pv 2)) (d_int)) (d_mul false (d_int) (dv 1 (pv 1)))) (d_int)) (da_cons (d_int) (da_nil))))))))
abbrev s__law_take : Stmt := topS 7
abbrev N__law_take : List Str := ["_law_box_here", "_law_bound", "_law_once", "_law_found"]
theorem sc__law_take : FnScope N__law_take ["_law_box_here", "_law_bound"] (defScope s__law_take) := ⟨rfl, rfl, rfl, by decide +kernel, rfl, by decide +kernel, by decide +kernel⟩
theorem ok__law_take (f : Addr) (fd : FuncData) (F : Fun K "_law_take" "_law_take" s__law_take f fd) (hm : mg "_law_take" = some (.ref f)) (B : Bi mg)   : GD HW.P HW.w K mg base 1 "_law_take" s__law_take ["_law_box_here", "_law_bound"] m__law_take := gd_ok false F hm sc__law_take fun cdv A outer s H E hr =>
    ds_cons (ds_if (t_gt (d_idx hr.room (dv 0 (pv 0)) (d_int) (fun _ _ => rfl)) (d_int)) (ds_cons (ds_set (ps_set (i := 3) sc__law_take.nd rfl (Or.inl rfl) (d_mod (d_idx hr.room (dv 0 (pv 0)) (d_int) (fun _ _ => rfl)) (dv 1 (pv 1)))))
    (ds_cons (ds_sub (d_div (d_idx hr.room (dv 0 (pv 0)) (d_int) (fun _ _ => rfl)) (dv 1 (pv 1))) (dv 0 (pv 0)) (d_int) (ps_asg (d_div (d_idx hr.room (dv 0 (pv 0)) (d_int) (fun _ _ => rfl)) (dv 1 (pv 1))) (pg_sub (dv 0 (pv 0)) (d_int) set_list)))
    (ds_one (ds_ret (dv 3 (pv 3)))))) (ds_nil))
    (ds_cons (ds_sub (d_add false (d_idx hr.room (dv 0 (pv 0)) (d_int) (fun _ _ => rfl)) (d_int)) (dv 0 (pv 0)) (d_int) (ps_asg (d_add false (d_idx hr.room (dv 0 (pv 0)) (d_int) (fun _ _ => rfl)) (d_int)) (pg_sub (dv 0 (pv 0)) (d_int) set_list)))
    (ds_cons (ds_set (ps_set (i := 2) sc__law_take.nd rfl (Or.inl rfl) (d_mod (d_pow (d_add false (d_idx hr.room (dv 0 (pv 0)) (d_int) (fun _ _ => rfl)) (d_mul false (d_int) (d_idx hr.room (dv 0 (pv 0)) (d_int) (fun _ _ => rfl)))) (d_int)) (d_int))))
    (ds_one (ds_ret (d_mod (d_div (d_mod (d_add false (d_mul false (dv 2 (pv 2)) (d_add false (d_mod (dv 2 (pv 2)) (d_int)) (d_int))) (d_mul false (d_idx hr.room (dv 0 (pv 0)) (d_int) (fun _ _ => rfl)) (d_int))) (d_int)) (d_int)) (dv 1 (pv 1)))))))
abbrev s__law_is_row : Stmt := topS 13
abbrev N__law_is_row : List Str := ["_law_matter", "_law_part"]
theorem sc__law_is_row : FnScope N__law_is_row ["_law_matter"] (defScope s__law_is_row) := ⟨rfl, rfl, rfl, by decide +kernel, rfl, by decide +kernel, by decide +kernel⟩
theorem ok__law_is_row (f : Addr) (fd : FuncData) (F : Fun K "_law_is_row" "_law_is_row" s__law_is_row f fd) (hm : mg "_law_is_row" = some (.ref f)) (B : Bi mg)   : GD HW.P HW.w K mg base 1 "_law_is_row" s__law_is_row ["_law_matter"] m__law_is_row := gd_ok false F hm sc__law_is_row fun cdv A outer s H E hr =>
    ds_cons (ds_if (PW.pt (dw_or (dt_not (dt_val (d_isi B.isinstance B.tuple bt_tuple (.inr (.inr (.inr (.inr (.inl rfl))))) (dv 0 (pv 0))))) (dw_or1 (t_eq hr.room (d_len B.len (da_cons (dv 0 (pv 0)) (da_nil))) (d_int))))) (ds_one (ds_ret (d_bl))) (ds_nil))
    (ds_cons (ds_for rfl PassesOwn.never (di_seq (dv 0 (pv 0))) (dg_name 1 (pg_name (i := 1) sc__law_is_row.nd rfl (Or.inl rfl)))
    (ds_one (ds_if (PW.pt (dw_or (dt_not (dt_val (d_isi B.isinstance B.str bt_str (.inr (.inr (.inl rfl))) (dv 1 (pv 1))))) (dw_or (dt_not (t_chain (op_lt.or op_lt_str) s_lt (op_lt.or op_lt_str) s_lt (d_int) (d_len B.len (da_cons (dv 1 (pv 1)) (da_nil))) (d_int))) (dw_or1 (t_ne hr.room (d_strip (dv 1 (pv 1)) (d_str)) (d_str)))))) (ds_one (ds_ret (d_bl))) (ds_nil))))
    (ds_one (ds_ret (d_all rfl B.all (da_cons (d_lc false (own := [("_law_part", 1)]) rfl sc__law_is_row.nd (di_seq (dv 0 (pv 0))) (blkOk_by (N := N__law_is_row) (sc := defScope s__law_is_row) (by decide +kernel)) (fun _ _ _ _ _ => dg_name 1 (pg_name (i := 1) sc__law_is_row.nd rfl (Or.inl rfl))) (fun _ _ _ _ _ => dts_nil) (fun _ _ _ _ _ => d_eq hr.room (d_countT hr (dv 0 (pv 0)) (da_cons (dv 1 (pv 1)) (da_nil))) (d_int)) (by decide)) (da_nil))))))
abbrev s_is_row : Stmt := topS 4
abbrev N_is_row : List Str := ["thing", "part"]
theorem sc_is_row : FnScope N_is_row ["thing"] (defScope s_is_row) := ⟨rfl, rfl, rfl, by decide +kernel, rfl, by decide +kernel, by decide +kernel⟩
theorem ok_is_row (f : Addr) (fd : FuncData) (F : Fun K "is_row" "is_row" s_is_row f fd) (hm : mg "is_row" = some (.ref f)) (B : Bi mg)  (g_is_name : GD HW.P HW.w K mg base 1 "is_name" s_is_name ["thing"] m_is_name) : GD HW.P HW.w K mg base 2 "is_row" s_is_row ["thing"] m_is_row := gd_ok false F hm sc_is_row fun cdv A outer s H E hr =>
    ds_cons (ds_if (PW.pt (dw_or (dt_not (dt_val (d_isi B.isinstance B.tuple bt_tuple (.inr (.inr (.inr (.inr (.inl rfl))))) (dv 0 (pv 0))))) (dw_or (t_eq hr.room (d_len B.len (da_cons (dv 0 (pv 0)) (da_nil))) (d_int)) (dw_or1 (dt_not (dt_val (d_all rfl B.all (da_cons (d_lc false (own := [("part", 1)]) rfl sc_is_row.nd (di_seq (dv 0 (pv 0))) (blkOk_by (N := N_is_row) (sc := defScope s_is_row) (by decide +kernel)) (fun _ _ _ _ _ => dg_name 1 (pg_name (i := 1) sc_is_row.nd rfl (Or.inl rfl))) (fun _ _ _ _ _ => dts_nil) (fun _ _ _ _ _ => d_call' g_is_name (hr.mono (by omega)) (da_cons (dv 1 (pv 1)) (da_nil)) (fun _ _ _ _ _ _ us hl => match us, hl with | [_], _ => rfl)) (by decide)) (da_nil))))))))) (ds_one (ds_ret (d_bl))) (ds_nil))
    (ds_one (ds_ret (d_eq hr.room (d_len B.len (da_cons (d_dc false (own := [("part", 1)]) rfl sc_is_row.nd (di_seq (dv 0 (pv 0))) (blkOk_by (N := N_is_row) (sc := defScope s_is_row) (by decide +kernel)) (fun _ _ _ _ _ => dg_name 1 (pg_name (i := 1) sc_is_row.nd rfl (Or.inl rfl))) (fun _ _ _ _ _ => dts_nil) (fun _ _ _ _ _ => dv 1 (pv 1)) (fun _ _ _ _ _ => d_bl) (by decide)) (da_nil))) (d_len B.len (da_cons (dv 0 (pv 0)) (da_nil))))))
abbrev s__law_strewn : Stmt := topS 9
abbrev N__law_strewn : List Str := ["_law_box_here", "_law_some", "_law_found", "_law_item"]
theorem sc__law_strewn : FnScope N__law_strewn ["_law_box_here", "_law_some"] (defScope s__law_strewn) := ⟨rfl, rfl, rfl, by decide +kernel, rfl, by decide +kernel, by decide +kernel⟩
theorem ok__law_strewn (f : Addr) (fd : FuncData) (F : Fun K "_law_strewn" "_law_strewn" s__law_strewn f fd) (hm : mg "_law_strewn" = some (.ref f)) (B : Bi mg)  (g__law_take : GD HW.P HW.w K mg base 1 "_law_take" s__law_take ["_law_box_here", "_law_bound"] m__law_take) : GD HW.P HW.w K mg base 2 "_law_strewn" s__law_strewn ["_law_box_here", "_law_some"] m__law_strewn := gd_ok false F hm sc__law_strewn fun cdv A outer s H E hr =>
    ds_cons (ds_set (ps_set (i := 2) sc__law_strewn.nd rfl (Or.inl rfl) (d_lst true (da_nil))))
    (ds_cons (ds_for rfl PassesOwn.never (di_seq (dv 1 (pv 1))) (dg_name 3 (pg_name (i := 3) sc__law_strewn.nd rfl (Or.inl rfl)))
    (ds_one (ds_expr ((pe_bm PySem.F.plainAttrs_list PySem.F.slot_list_insert PySem.F.type_list_insert mt_insert (dv 2 (pv 2)) (da_cons (d_call' g__law_take (hr.mono (by omega)) (da_cons (dv 0 (pv 0)) (da_cons (d_add false (d_len B.len (da_cons (dv 2 (pv 2)) (da_nil))) (d_int)) (da_nil))) (fun _ _ _ _ _ _ us hl => match us, hl with | [_, _], _ => rfl)) (da_cons (dv 3 (pv 3)) (da_nil)))).weak (meth_imp s_insert)))))
    (ds_one (ds_ret (dv 2 (pv 2)))))
abbrev s__law_odd : Stmt := topS 11
abbrev N__law_odd : List Str := ["_law_box_here", "_law_some"]
theorem sc__law_odd : FnScope N__law_odd ["_law_box_here"] (defScope s__law_odd) := ⟨rfl, rfl, rfl, by decide +kernel, rfl, by decide +kernel, by decide +kernel⟩
theorem ok__law_odd (f : Addr) (fd : FuncData) (F : Fun K "_law_odd" "_law_odd" s__law_odd f fd) (hm : mg "_law_odd" = some (.ref f)) (B : Bi mg)  (g__law_take : GD HW.P HW.w K mg base 1 "_law_take" s__law_take ["_law_box_here", "_law_bound"] m__law_take) : GD HW.P HW.w K mg base 2 "_law_odd" s__law_odd ["_law_box_here"] m__law_odd := gd_ok false F hm sc__law_odd fun cdv A outer s H E hr =>
    ds_cons (ds_set (ps_set (i := 1) sc__law_odd.nd rfl (Or.inl rfl) (d_lst false (da_cons (d_non) (da_cons (d_bl) (da_cons (d_int) (da_cons (d_int) (da_cons (d_neg (d_int)) (da_cons (d_str) (da_cons (d_str) (da_cons (d_str) (da_cons (d_str) (da_cons (d_str) (da_cons (d_str) (da_cons (d_tup (da_nil)) (da_cons (d_lst false (da_nil)) (da_cons (d_tup (da_cons (d_str) (da_nil))) (da_cons (d_lst false (da_cons (d_str) (da_nil))) (da_cons (d_tup (da_cons (d_str) (da_cons (d_str) (da_nil)))) (da_cons (d_tup (da_cons (d_str) (da_cons (d_str) (da_nil)))) (da_nil)))))))))))))))))))))
    (ds_one (ds_ret (d_idx hr.room (d_add false (dv 1 (pv 1)) (d_lst false (da_cons (d_tup (da_cons (d_tup (da_cons (d_str) (da_cons (d_str) (da_nil)))) (da_nil))) (da_cons (d_lst false (da_cons (d_tup (da_cons (d_str) (da_cons (d_str) (da_nil)))) (da_nil))) (da_cons (d_tup (da_cons (d_tup (da_cons (d_str) (da_cons (d_str) (da_nil)))) (da_nil))) (da_cons (d_tup (da_cons (d_tup (da_nil)) (da_nil))) (da_nil))))))) (d_call' g__law_take (hr.mono (by omega)) (da_cons (dv 0 (pv 0)) (da_cons (d_int) (da_nil))) (fun _ _ _ _ _ _ us hl => match us, hl with | [_, _], _ => rfl)) (fun _ _ => rfl))))
abbrev s__law_crew : Stmt := topS 10
abbrev N__law_crew : List Str := ["_law_box_here", "_law_most", "_law_at", "_law_size", "_law_letters", "_law_pool", "_law_start", "_law_step", "_law_sign"]
theorem sc__law_crew : FnScope N__law_crew ["_law_box_here", "_law_most"] (defScope s__law_crew) := ⟨rfl, rfl, rfl, by decide +kernel, rfl, by decide +kernel, by decide +kernel⟩
theorem ok__law_crew (f : Addr) (fd : FuncData) (F : Fun K "_law_crew" "_law_crew" s__law_crew f fd) (hm : mg "_law_crew" = some (.ref f)) (B : Bi mg)  (g__law_strewn : GD HW.P HW.w K mg base 2 "_law_strewn" s__law_strewn ["_law_box_here", "_law_some"] m__law_strewn) (g__law_take : GD HW.P HW.w K mg base 1 "_law_take" s__law_take ["_law_box_here", "_law_bound"] m__law_take) : GD HW.P HW.w K mg base 3 "_law_crew" s__law_crew ["_law_box_here", "_law_most"] m__law_crew := gd_ok false F hm sc__law_crew fun cdv A outer s H E hr =>
    ds_cons (ds_par3 (ps_par3 (i := 3) (j := 4) (l := 5) rfl sc__law_crew.nd rfl rfl rfl (by decide) (by decide) (by decide) rfl rfl rfl (da_cons (d_add false (d_int) (d_call' g__law_take (hr.mono (by omega)) (da_cons (dv 0 (pv 0)) (da_cons (dv 1 (pv 1)) (da_nil))) (fun _ _ _ _ _ _ us hl => match us, hl with | [_, _], _ => rfl))) (da_cons (d_str) (da_cons (d_lst true (da_nil)) (da_nil)))) (by rfl)))
    (ds_cons (ds_par2 (ps_par (i := 6) (j := 7) rfl sc__law_crew.nd rfl rfl (by decide) rfl rfl (da_cons (d_call' g__law_take (hr.mono (by omega)) (da_cons (dv 0 (pv 0)) (da_cons (d_int) (da_nil))) (fun _ _ _ _ _ _ us hl => match us, hl with | [_, _], _ => rfl)) (da_cons (d_idx hr.room (d_lst false (da_cons (d_int) (da_cons (d_int) (da_cons (d_int) (da_nil))))) (d_call' g__law_take (hr.mono (by omega)) (da_cons (dv 0 (pv 0)) (da_cons (d_int) (da_nil))) (fun _ _ _ _ _ _ us hl => match us, hl with | [_, _], _ => rfl)) (fun _ _ => rfl)) (da_nil))) (by rfl)))
    (ds_cons (ds_for rfl PassesOwn.never (di_rng1 B.range (da_cons (dv 3 (pv 3)) (da_nil))) (dg_name 2 (pg_name (i := 2) sc__law_crew.nd rfl (Or.inl rfl)))
    (ds_cons (ds_set (ps_set (i := 8) sc__law_crew.nd rfl (Or.inl rfl) (d_idx hr.room (dv 4 (pv 4)) (d_mod (d_add false (dv 6 (pv 6)) (d_mul false (dv 7 (pv 7)) (d_div (dv 2 (pv 2)) (d_int)))) (d_int)) (fun _ _ => rfl))))
    (ds_one (ds_expr ((pe_bm PySem.F.plainAttrs_list PySem.F.slot_list_append PySem.F.type_list_append mt_append (dv 5 (pv 5)) (da_cons (d_add false (dv 8 (pv 8)) (d_idx hr.room (d_lst false (da_cons (d_str) (da_cons (d_str) (da_cons (d_str) (da_nil))))) (d_mul false (d_mod (dv 2 (pv 2)) (d_int)) (d_add false (d_int) (d_mod (dv 6 (pv 6)) (d_int)))) (fun _ _ => rfl))) (da_nil))).weak (meth_imp s_append))))))
    (ds_frz 5 (ds_one (ds_ret (d_call' g__law_strewn (hr.mono (by omega)) (da_cons (dv 0 (pv 0)) (da_cons (dv 5 (pv 5)) (da_nil))) (fun _ _ _ _ _ _ us hl => match us, hl with | [_, _], _ => rfl)))))))
abbrev s__law_same : Stmt := topS 8
abbrev N__law_same : List Str := ["_law_found", "_law_due", "_law_mine", "_law_its"]
theorem sc__law_same : FnScope N__law_same ["_law_found", "_law_due"] (defScope s__law_same) := ⟨rfl, rfl, rfl, by decide +kernel, rfl, by decide +kernel, by decide +kernel⟩
theorem ok__law_same (f : Addr) (fd : FuncData) (F : Fun K "_law_same" "_law_same" s__law_same f fd) (hm : mg "_law_same" = some (.ref f)) (B : Bi mg)   : ∀ n : Nat, GD HW.P HW.w K mg base (n) "_law_same" s__law_same ["_law_found", "_law_due"] (m__law_same n)
  | 0 => GD.no F hm
  | n + 1 => have ih := ok__law_same f fd F hm B  n
    gd_ok false F hm sc__law_same fun cdv A outer s H E hr =>
    ds_cons (ds_if (dt_val (d_isi2 B.isinstance B.list bt_list (.inr (.inr (.inr (.inl rfl)))) B.tuple bt_tuple (.inr (.inr (.inr (.inr (.inl rfl))))) (dv 1 (pv 1)))) (ds_cons (ds_if (PW.pt (dw_or (t_ne hr.room (d_isi B.isinstance B.list bt_list (.inr (.inr (.inr (.inl rfl)))) (dv 0 (pv 0))) (d_isi B.isinstance B.list bt_list (.inr (.inr (.inr (.inl rfl)))) (dv 1 (pv 1)))) (dw_or1 (t_ne hr.room (d_isi B.isinstance B.tuple bt_tuple (.inr (.inr (.inr (.inr (.inl rfl))))) (dv 0 (pv 0))) (d_isi B.isinstance B.tuple bt_tuple (.inr (.inr (.inr (.inr (.inl rfl))))) (dv 1 (pv 1))))))) (ds_one (ds_ret (d_bl))) (ds_nil))
    (ds_cons (ds_if (t_ne hr.room (d_len B.len (da_cons (dv 0 (pv 0)) (da_nil))) (d_len B.len (da_cons (dv 1 (pv 1)) (da_nil)))) (ds_one (ds_ret (d_bl))) (ds_nil))
    (ds_one (ds_ret (d_all rfl B.all (da_cons (d_lc false (own := [("_law_mine", 2), ("_law_its", 3)]) rfl sc__law_same.nd (di_zip B.zip (da_cons (dv 0 (pv 0)) (da_cons (dv 1 (pv 1)) (da_nil)))) (blkOk_by (N := N__law_same) (sc := defScope s__law_same) (by decide +kernel)) (fun _ _ _ _ _ => dg_tup rfl (dgs_cons (dg_name 2 (pg_name (i := 2) sc__law_same.nd rfl (Or.inl rfl))) (dgs_cons (dg_name 3 (pg_name (i := 3) sc__law_same.nd rfl (Or.inl rfl))) (dgs_nil)))) (fun _ _ _ _ _ => dts_nil) (fun _ _ _ _ _ => d_call' ih hr (da_cons (dv 2 (pv 2)) (da_cons (dv 3 (pv 3)) (da_nil))) (fun _ _ _ _ _ _ us hl => match us, hl with | [_, _], _ => rfl)) (by decide)) (da_nil))))))) (ds_nil))
    (ds_cons (ds_if (PW.pt (dw_or (t_is (dv 1 (pv 1)) (d_non)) (dw_or1 (dt_val (d_isi B.isinstance B.str bt_str (.inr (.inr (.inl rfl))) (dv 1 (pv 1))))))) (ds_one (ds_ret (d_and (d_eq hr.room (dv 0 (pv 0)) (dv 1 (pv 1))) (d_one (d_eq hr.room (d_isi B.isinstance B.str bt_str (.inr (.inr (.inl rfl))) (dv 0 (pv 0))) (d_isi B.isinstance B.str bt_str (.inr (.inr (.inl rfl))) (dv 1 (pv 1)))))))) (ds_nil))
    (ds_one (ds_ret (d_and (d_isi B.isinstance B.int bt_int (.inl rfl) (dv 0 (pv 0))) (d_and (d_eq hr.room (d_isi B.isinstance B.bool bt_bool (.inr (.inl rfl)) (dv 0 (pv 0))) (d_isi B.isinstance B.bool bt_bool (.inr (.inl rfl)) (dv 1 (pv 1)))) (d_one (d_eq hr.room (dv 0 (pv 0)) (dv 1 (pv 1)))))))))
abbrev s__law_otherwise : Stmt := topS 12
abbrev N__law_otherwise : List Str := ["_law_box_here", "_law_matter", "_law_at", "_law_turn", "_law_some"]
theorem sc__law_otherwise : FnScope N__law_otherwise ["_law_box_here", "_law_matter"] (defScope s__law_otherwise) := ⟨rfl, rfl, rfl, by decide +kernel, rfl, by decide +kernel, by decide +kernel⟩
theorem ok__law_otherwise (f : Addr) (fd : FuncData) (F : Fun K "_law_otherwise" "_law_otherwise" s__law_otherwise f fd) (hm : mg "_law_otherwise" = some (.ref f)) (B : Bi mg)  (g__law_odd : GD HW.P HW.w K mg base 2 "_law_odd" s__law_odd ["_law_box_here"] m__law_odd) (g__law_take : GD HW.P HW.w K mg base 1 "_law_take" s__law_take ["_law_box_here", "_law_bound"] m__law_take) : ∀ n : Nat, GD HW.P HW.w K mg base (n + 2) "_law_otherwise" s__law_otherwise ["_law_box_here", "_law_matter"] (m__law_otherwise n)
  | 0 => GD.no F hm
  | n + 1 => have ih := ok__law_otherwise f fd F hm B g__law_odd g__law_take n
    gd_ok false F hm sc__law_otherwise fun cdv A outer s H E hr =>
    ds_cons (ds_if (PW.pt (dw_and (dt_val (d_isi2 B.isinstance B.list bt_list (.inr (.inr (.inr (.inl rfl)))) B.tuple bt_tuple (.inr (.inr (.inr (.inr (.inl rfl))))) (dv 1 (pv 1)))) (dw_and (t_gt (d_len B.len (da_cons (dv 1 (pv 1)) (da_nil))) (d_int)) (dw_and1 (t_gt (d_call' g__law_take (hr.mono (by omega)) (da_cons (dv 0 (pv 0)) (da_cons (d_int) (da_nil))) (fun _ _ _ _ _ _ us hl => match us, hl with | [_, _], _ => rfl)) (d_int)))))) (ds_cons (ds_par3 (ps_par3 (i := 2) (j := 3) (l := 4) rfl sc__law_otherwise.nd rfl rfl rfl (by decide) (by decide) (by decide) rfl rfl rfl (da_cons (d_call' g__law_take (hr.mono (by omega)) (da_cons (dv 0 (pv 0)) (da_cons (d_len B.len (da_cons (dv 1 (pv 1)) (da_nil))) (da_nil))) (fun _ _ _ _ _ _ us hl => match us, hl with | [_, _], _ => rfl)) (da_cons (d_call' g__law_take (hr.mono (by omega)) (da_cons (dv 0 (pv 0)) (da_cons (d_int) (da_nil))) (fun _ _ _ _ _ _ us hl => match us, hl with | [_, _], _ => rfl)) (da_cons (d_list true B.list (da_cons (dv 1 (pv 1)) (da_nil))) (da_nil)))) (by rfl)))
    (ds_cons (ds_if (t_lt (dv 3 (pv 3)) (d_int)) (ds_one (ds_sub (d_call' ih hr (da_cons (dv 0 (pv 0)) (da_cons (d_idx hr.room (dv 1 (pv 1)) (dv 2 (pv 2)) (fun _ _ => rfl)) (da_nil))) (fun _ _ _ _ _ _ us hl => match us, hl with | [_, _], _ => rfl)) (dv 4 (pv 4)) (dv 2 (pv 2)) (ps_asg (d_call' ih hr (da_cons (dv 0 (pv 0)) (da_cons (d_idx hr.room (dv 1 (pv 1)) (dv 2 (pv 2)) (fun _ _ => rfl)) (da_nil))) (fun _ _ _ _ _ _ us hl => match us, hl with | [_, _], _ => rfl)) (pg_sub (dv 4 (pv 4)) (dv 2 (pv 2)) set_list)))) (ds_one (ds_if (t_eq hr.room (dv 3 (pv 3)) (d_int)) (ds_one (ds_expr ((pe_bm PySem.F.plainAttrs_list PySem.F.slot_list_pop PySem.F.type_list_pop mt_popAt (dv 4 (pv 4)) (da_cons (dv 2 (pv 2)) (da_nil))).weak (meth_imp s_popAt)))) (ds_one (ds_if (t_eq hr.room (dv 3 (pv 3)) (d_int)) (ds_one (ds_expr ((pe_bm PySem.F.plainAttrs_list PySem.F.slot_list_insert PySem.F.type_list_insert mt_insert (dv 4 (pv 4)) (da_cons (dv 2 (pv 2)) (da_cons (d_idx hr.room (dv 1 (pv 1)) (dv 2 (pv 2)) (fun _ _ => rfl)) (da_nil)))).weak (meth_imp s_insert)))) (ds_one (ds_if (t_eq hr.room (dv 3 (pv 3)) (d_int)) (ds_one (ds_expr ((pe_bm0 PySem.F.plainAttrs_list PySem.F.slot_list_reverse PySem.F.type_list_reverse mt_reverse (dv 4 (pv 4))).weak (meth0_imp s_reverse)))) (ds_one (ds_ret (d_if (dt_val (d_isi B.isinstance B.tuple bt_tuple (.inr (.inr (.inr (.inr (.inl rfl))))) (dv 1 (pv 1)))) (dv 4 (pv 4)) (d_tuple B.tuple (da_cons (dv 4 (pv 4)) (da_nil)))))))))))))
    (ds_frz 4 (ds_one (ds_ret (d_if (dt_val (d_isi B.isinstance B.list bt_list (.inr (.inr (.inr (.inl rfl)))) (dv 1 (pv 1)))) (dv 4 (pv 4)) (d_tuple B.tuple (da_cons (dv 4 (pv 4)) (da_nil))))))))) (ds_nil))
    (ds_cons (ds_if (PW.pt (dw_and (dt_val (d_isi B.isinstance B.int bt_int (.inl rfl) (dv 1 (pv 1)))) (dw_and (dt_not (dt_val (d_isi B.isinstance B.bool bt_bool (.inr (.inl rfl)) (dv 1 (pv 1))))) (dw_and1 (t_gt (d_call' g__law_take (hr.mono (by omega)) (da_cons (dv 0 (pv 0)) (da_cons (d_int) (da_nil))) (fun _ _ _ _ _ _ us hl => match us, hl with | [_, _], _ => rfl)) (d_int)))))) (ds_one (ds_ret (d_idx hr.room (d_lst false (da_cons (d_add false (dv 1 (pv 1)) (d_int)) (da_cons (d_sub (dv 1 (pv 1)) (d_int)) (da_cons (d_int) (da_cons (d_neg (dv 1 (pv 1))) (da_cons (d_eq hr.room (dv 1 (pv 1)) (d_int)) (da_cons (d_strI B.str (da_cons (dv 1 (pv 1)) (da_nil))) (da_cons (d_non) (da_nil))))))))) (d_call' g__law_take (hr.mono (by omega)) (da_cons (dv 0 (pv 0)) (da_cons (d_int) (da_nil))) (fun _ _ _ _ _ _ us hl => match us, hl with | [_, _], _ => rfl)) (fun _ _ => rfl)))) (ds_nil))
    (ds_cons (ds_if (PW.pt (dw_and (dt_val (d_isi B.isinstance B.str bt_str (.inr (.inr (.inl rfl))) (dv 1 (pv 1)))) (dw_and1 (t_gt (d_call' g__law_take (hr.mono (by omega)) (da_cons (dv 0 (pv 0)) (da_cons (d_int) (da_nil))) (fun _ _ _ _ _ _ us hl => match us, hl with | [_, _], _ => rfl)) (d_int))))) (ds_one (ds_ret (d_idx hr.room (d_lst false (da_cons (d_add false (dv 1 (pv 1)) (d_str)) (da_cons (d_slice false (dv 1 (pv 1)) (do_some (d_int)) (do_none)) (da_cons (d_upper (dv 1 (pv 1))) (da_cons (d_add false (dv 1 (pv 1)) (d_str)) (da_cons (d_tup (da_cons (dv 1 (pv 1)) (da_nil))) (da_cons (d_rev false (dv 1 (pv 1))) (da_nil)))))))) (d_call' g__law_take (hr.mono (by omega)) (da_cons (dv 0 (pv 0)) (da_cons (d_int) (da_nil))) (fun _ _ _ _ _ _ us hl => match us, hl with | [_, _], _ => rfl)) (fun _ _ => rfl)))) (ds_nil))
    (ds_one (ds_ret (d_call' g__law_odd (hr.mono (by omega)) (da_cons (dv 0 (pv 0)) (da_nil)) (fun _ _ _ _ _ _ us hl => match us, hl with | [_], _ => rfl))))))
abbrev s__law_right : Stmt := topS 14
abbrev N__law_right : List Str := ["_law_box_here", "_law_folk", "_law_things", "_law_again", "_law_item", "_law_kept", "_law_due", "_law_sign", "_law_one", "_law_two"]
theorem sc__law_right : FnScope N__law_right ["_law_box_here"] (defScope s__law_right) := ⟨rfl, rfl, rfl, by decide +kernel, rfl, by decide +kernel, by decide +kernel⟩
theorem ok__law_right (f : Addr) (fd : FuncData) (F : Fun K "_law_right" "_law_right" s__law_right f fd) (hm : mg "_law_right" = some (.ref f)) (B : Bi mg)  (g__law_crew : GD HW.P HW.w K mg base 3 "_law_crew" s__law_crew ["_law_box_here", "_law_most"] m__law_crew) (g__law_otherwise : GD HW.P HW.w K mg base 14 "_law_otherwise" s__law_otherwise ["_law_box_here", "_law_matter"] (m__law_otherwise 12)) (g__law_is_row : GD HW.P HW.w K mg base 1 "_law_is_row" s__law_is_row ["_law_matter"] m__law_is_row) (g__law_same : GD HW.P HW.w K mg base 12 "_law_same" s__law_same ["_law_found", "_law_due"] (m__law_same 12)) (g__law_take : GD HW.P HW.w K mg base 1 "_law_take" s__law_take ["_law_box_here", "_law_bound"] m__law_take) (g_is_row : GD HW.P HW.w K mg base 2 "is_row" s_is_row ["thing"] m_is_row) : GD HW.P HW.w K mg base 15 "_law_right" s__law_right ["_law_box_here"] m__law_right := gd_ok false F hm sc__law_right fun cdv A outer s H E hr =>
    ds_cons (ds_set (ps_set (i := 1) sc__law_right.nd rfl (Or.inl rfl) (d_tuple B.tuple (da_cons (d_call' g__law_crew (hr.mono (by omega)) (da_cons (dv 0 (pv 0)) (da_cons (d_int) (da_nil))) (fun _ _ _ _ _ _ us hl => match us, hl with | [_, _], _ => rfl)) (da_nil)))))
    (ds_cons (ds_set (ps_set (i := 2) sc__law_right.nd rfl (Or.inl rfl) (d_lst false (da_cons (dv 1 (pv 1)) (da_cons (d_list false B.list (da_cons (dv 1 (pv 1)) (da_nil))) (da_cons (d_tup (da_nil)) (da_cons (d_lst false (da_nil)) (da_cons (d_non) (da_cons (d_str) (da_cons (d_tup (da_cons (d_str) (da_cons (d_str) (da_nil)))) (da_cons (d_tup (da_cons (d_str) (da_nil))) (da_cons (d_tup (da_cons (d_str) (da_nil))) (da_cons (d_tup (da_cons (d_str) (da_cons (d_str) (da_nil)))) (da_cons (d_tup (da_cons (d_str) (da_cons (d_str) (da_nil)))) (da_cons (d_tup (da_cons (d_int) (da_nil))) (da_nil))))))))))))))))
    (ds_cons (ds_set (ps_set (i := 2) sc__law_right.nd rfl (Or.inl rfl) (d_add true (dv 2 (pv 2)) (d_lst false (da_cons (d_add false (dv 1 (pv 1)) (d_slice false (dv 1 (pv 1)) (do_none) (do_some (d_int)))) (da_cons (d_add false (dv 1 (pv 1)) (d_tup (da_cons (d_str) (da_nil)))) (da_cons (d_tup (da_cons (dv 1 (pv 1)) (da_nil))) (da_nil))))))))
    (ds_cons (ds_expr ((pe_bm PySem.F.plainAttrs_list PySem.F.slot_list_append PySem.F.type_list_append mt_append (dv 2 (pv 2)) (da_cons (d_tuple B.tuple (da_cons (d_lc false (own := [("_law_sign", 7)]) rfl sc__law_right.nd (di_str (d_mulS (d_str) (d_int))) (blkOk_by (N := N__law_right) (sc := defScope s__law_right) (by decide +kernel)) (fun _ _ _ _ _ => dg_name 7 (pg_name (i := 7) sc__law_right.nd rfl (Or.inl rfl))) (fun _ _ _ _ _ => dts_nil) (fun _ _ _ _ _ => d_add false (dv 7 (pv 7)) (d_str)) (by decide)) (da_nil))) (da_nil))).weak (meth_imp s_append)))
    (ds_cons (ds_expr ((pe_bm PySem.F.plainAttrs_list PySem.F.slot_list_append PySem.F.type_list_append mt_append (dv 2 (pv 2)) (da_cons (d_tuple B.tuple (da_cons (d_lcB false (own := [("_law_one", 8), ("_law_two", 9)]) rfl sc__law_right.nd (di_zipTB B.zip (da_cons (d_mulS (d_str) (d_int)) (da_cons (d_add false (d_mulS (d_str) (d_int)) (d_mulS (d_str) (d_int))) (da_nil)))) (blkOk_by (N := N__law_right) (sc := defScope s__law_right) (by decide +kernel)) (fun _ _ _ _ _ => dg_tupB rfl (dgs_cons (dg_name 8 (pg_name (i := 8) sc__law_right.nd rfl (Or.inl rfl))) (dgs_cons (dg_name 9 (pg_name (i := 9) sc__law_right.nd rfl (Or.inl rfl))) (dgs_nil)))) (fun _ _ _ _ _ => dts_nil) (fun _ _ _ _ _ => d_add false (dv 8 (pv 8)) (dv 9 (pv 9))) (by decide)) (da_nil))) (da_nil))).weak (meth_imp s_append)))
    (ds_cons (ds_for rfl PassesOwn.never (di_rng1 B.range (da_cons (d_int) (da_nil))) (dg_name 3 (pg_name (i := 3) sc__law_right.nd rfl (Or.inl rfl)))
    (ds_cons (ds_set (ps_set (i := 4) sc__law_right.nd rfl (Or.inl rfl) (d_call' g__law_otherwise (hr.mono (by omega)) (da_cons (dv 0 (pv 0)) (da_cons (dv 1 (pv 1)) (da_nil))) (fun _ _ _ _ _ _ us hl => match us, hl with | [_, _], _ => rfl))))
    (ds_one (ds_expr ((pe_bm PySem.F.plainAttrs_list PySem.F.slot_list_append PySem.F.type_list_append mt_append (dv 2 (pv 2)) (da_cons (d_if (t_eq hr.room (d_call' g__law_take (hr.mono (by omega)) (da_cons (dv 0 (pv 0)) (da_cons (d_int) (da_nil))) (fun _ _ _ _ _ _ us hl => match us, hl with | [_, _], _ => rfl)) (d_int)) (d_call' g__law_otherwise (hr.mono (by omega)) (da_cons (dv 0 (pv 0)) (da_cons (dv 4 (pv 4)) (da_nil))) (fun _ _ _ _ _ _ us hl => match us, hl with | [_, _], _ => rfl)) (dv 4 (pv 4))) (da_nil))).weak (meth_imp s_append))))))
    (ds_frz 2 (ds_cons (ds_for rfl PassesOwn.never (di_seq (dv 2 (pv 2))) (dg_name 4 (pg_name (i := 4) sc__law_right.nd rfl (Or.inl rfl)))
    (ds_cons (ds_par2 (ps_par (i := 5) (j := 6) rfl sc__law_right.nd rfl rfl (by decide) rfl rfl (da_cons (d_reprA hr B.repr (da_cons (dv 4 (pv 4)) (da_nil))) (da_cons (d_call' g__law_is_row (hr.mono (by omega)) (da_cons (dv 4 (pv 4)) (da_nil)) (fun _ _ _ _ _ _ us hl => match us, hl with | [_], _ => rfl)) (da_nil))) (by rfl)))
    (ds_one (ds_if (PW.pt (dw_or (dt_not (dt_val (d_call' g__law_same (hr.mono (by omega)) (da_cons (d_lst false (da_cons (d_call' g_is_row (hr.mono (by omega)) (da_cons (dv 4 (pv 4)) (da_nil)) (fun _ _ _ _ _ _ us hl => match us, hl with | [_], _ => rfl)) (da_cons (d_callK (ks := ["thing"]) g_is_row (hr.mono (by omega)) (dk_cons (dv 4 (pv 4)) (dk_nil)) (fun _ _ _ _ _ _ us l hl hp => match us, hl with | [_], _ => by cases hp; rfl) rfl) (da_nil)))) (da_cons (d_lst false (da_cons (dv 6 (pv 6)) (da_cons (dv 6 (pv 6)) (da_nil)))) (da_nil))) (fun _ _ _ _ _ _ us hl => match us, hl with | [_, _], _ => rfl)))) (dw_or1 (t_ne hr.room (d_reprA hr B.repr (da_cons (dv 4 (pv 4)) (da_nil))) (dv 5 (pv 5)))))) (ds_one (ds_ret (d_bl))) (ds_nil)))))
    (ds_one (ds_ret (d_bl))))))))))
abbrev s_law : Stmt := topS 15
abbrev N_law : List Str := ["_law_script", "_law_k", "_law_box_here", "_law_turn"]
theorem sc_law : FnScope N_law ["_law_script"] (defScope s_law) := ⟨rfl, rfl, rfl, by decide +kernel, rfl, by decide +kernel, by decide +kernel⟩
theorem ok_law (f : Addr) (fd : FuncData) (F : Fun K "law" "law" s_law f fd) (hm : mg "law" = some (.ref f)) (B : Bi mg)  (g__law_box : GD HW.P HW.w K mg base 1 "_law_box" s__law_box ["_law_script", "_law_k"] m__law_box) (g__law_right : GD HW.P HW.w K mg base 15 "_law_right" s__law_right ["_law_box_here"] m__law_right) : FnG HW.P HW.w K mg base CX0 16 f fd ["_law_script"] (spD m_law) := fng_ok false F sc_law fun cdv A outer s H E hr =>
    ds_cons (ds_for rfl PassesOwn.never (di_rng1 B.range (da_cons (d_max rfl B.max (da_cons (d_int) (da_cons (d_min rfl B.min (da_cons (d_int) (da_cons (d_len B.len (da_cons (dv 0 (pv 0)) (da_nil))) (da_nil)))) (da_nil)))) (da_nil))) (dg_name 1 (pg_name (i := 1) sc_law.nd rfl (Or.inl rfl)))
    (ds_cons (ds_set (ps_set (i := 2) sc_law.nd rfl (Or.inr rfl) (d_call' g__law_box (hr.mono (by omega)) (da_cons (dv 0 (pv 0)) (da_cons (dv 1 (pv 1)) (da_nil))) (fun _ _ _ _ _ _ us hl => match us, hl with | [_, _], _ => rfl))))
    (ds_one (ds_if (dt_not (dt_val (d_all rfl B.all (da_cons (d_lc false (own := [("_law_turn", 3)]) rfl sc_law.nd (di_rng1 B.range (da_cons (d_int) (da_nil))) (blkOk_by (N := N_law) (sc := defScope s_law) (by decide +kernel)) (fun _ _ _ _ _ => dg_name 3 (pg_name (i := 3) sc_law.nd rfl (Or.inl rfl))) (fun _ _ _ _ _ => dts_nil) (fun _ _ _ _ _ => d_call' g__law_right (hr.mono (by omega)) (da_cons (dv 2 (pv 2)) (da_nil)) (fun _ _ _ _ _ _ us hl => match us, hl with | [_], _ => rfl)) (by decide)) (da_nil))))) (ds_one (ds_ret (d_bl))) (ds_nil)))))
    (ds_one (ds_ret (d_bl)))
end
theorem all_mk {l : PySem.W.OpenLaw} {w : World} {K : PySem.W.Frag} {h : Heap} {mg : Str → Option Value} {fa f0 f1 f2 f3 f4 f5 f6 f7 f8 f9 f10 f11 : Addr} (X : K.In h) (G : h.Ns mainGlobals mg) (hfa : mg "law" = some (.ref fa))
    {od0 od1 od2 od3 od4 od5 od6 od7 od8 od9 od10 od11 an0 an1 an2 an3 an4 an5 an6 an7 an8 an9 an10 an11 : Option Addr} {sl0 sl1 sl2 sl3 sl4 sl5 sl6 sl7 sl8 sl9 sl10 sl11 : Array (Option Value)} {oc0 oc1 oc2 oc3 oc4 oc5 oc6 oc7 oc8 oc9 oc10 oc11 kV0 kV1 kV2 kV3 kV4 kV5 kV6 kV7 kV8 kV9 kV10 kV11 dc0 dc1 dc2 dc3 dc4 dc5 dc6 dc7 dc8 dc9 dc10 dc11 pm0 pm1 pm2 pm3 pm4 pm5 pm6 pm7 pm8 pm9 pm10 pm11 cd0 cd1 cd2 cd3 cd4 cd5 cd6 cd7 cd8 cd9 cd10 cd11 ct0 ct1 ct2 ct3 ct4 ct5 ct6 ct7 ct8 ct9 ct10 ct11 : Value}
    (a0 : PySem.W.nsIn K mainGlobals "is_name" = some (some (.ref f0))) (l0 : K.lookup f0 = some ⟨oc0, od0, .func (PySem.W.fnOf "is_name" "is_name" (defArgs s_is_name) (defBody s_is_name) (defScope s_is_name) .none kV0 dc0 pm0 an0 cd0 ct0), sl0⟩) (c0 : PySem.W.codeIn K cd0 "is_name" = true) (k0 : PySem.W.keepIn K (.ref f0) = true)
    (a1 : PySem.W.nsIn K mainGlobals "is_row" = some (some (.ref f1))) (l1 : K.lookup f1 = some ⟨oc1, od1, .func (PySem.W.fnOf "is_row" "is_row" (defArgs s_is_row) (defBody s_is_row) (defScope s_is_row) .none kV1 dc1 pm1 an1 cd1 ct1), sl1⟩) (c1 : PySem.W.codeIn K cd1 "is_row" = true) (k1 : PySem.W.keepIn K (.ref f1) = true)
    (a2 : PySem.W.nsIn K mainGlobals "_law_box" = some (some (.ref f2))) (l2 : K.lookup f2 = some ⟨oc2, od2, .func (PySem.W.fnOf "_law_box" "_law_box" (defArgs s__law_box) (defBody s__law_box) (defScope s__law_box) .none kV2 dc2 pm2 an2 cd2 ct2), sl2⟩) (c2 : PySem.W.codeIn K cd2 "_law_box" = true) (k2 : PySem.W.keepIn K (.ref f2) = true)
    (a3 : PySem.W.nsIn K mainGlobals "_law_take" = some (some (.ref f3))) (l3 : K.lookup f3 = some ⟨oc3, od3, .func (PySem.W.fnOf "_law_take" "_law_take" (defArgs s__law_take) (defBody s__law_take) (defScope s__law_take) .none kV3 dc3 pm3 an3 cd3 ct3), sl3⟩) (c3 : PySem.W.codeIn K cd3 "_law_take" = true) (k3 : PySem.W.keepIn K (.ref f3) = true)
    (a4 : PySem.W.nsIn K mainGlobals "_law_same" = some (some (.ref f4))) (l4 : K.lookup f4 = some ⟨oc4, od4, .func (PySem.W.fnOf "_law_same" "_law_same" (defArgs s__law_same) (defBody s__law_same) (defScope s__law_same) .none kV4 dc4 pm4 an4 cd4 ct4), sl4⟩) (c4 : PySem.W.codeIn K cd4 "_law_same" = true) (k4 : PySem.W.keepIn K (.ref f4) = true)
    (a5 : PySem.W.nsIn K mainGlobals "_law_strewn" = some (some (.ref f5))) (l5 : K.lookup f5 = some ⟨oc5, od5, .func (PySem.W.fnOf "_law_strewn" "_law_strewn" (defArgs s__law_strewn) (defBody s__law_strewn) (defScope s__law_strewn) .none kV5 dc5 pm5 an5 cd5 ct5), sl5⟩) (c5 : PySem.W.codeIn K cd5 "_law_strewn" = true) (k5 : PySem.W.keepIn K (.ref f5) = true)
    (a6 : PySem.W.nsIn K mainGlobals "_law_crew" = some (some (.ref f6))) (l6 : K.lookup f6 = some ⟨oc6, od6, .func (PySem.W.fnOf "_law_crew" "_law_crew" (defArgs s__law_crew) (defBody s__law_crew) (defScope s__law_crew) .none kV6 dc6 pm6 an6 cd6 ct6), sl6⟩) (c6 : PySem.W.codeIn K cd6 "_law_crew" = true) (k6 : PySem.W.keepIn K (.ref f6) = true)
    (a7 : PySem.W.nsIn K mainGlobals "_law_odd" = some (some (.ref f7))) (l7 : K.lookup f7 = some ⟨oc7, od7, .func (PySem.W.fnOf "_law_odd" "_law_odd" (defArgs s__law_odd) (defBody s__law_odd) (defScope s__law_odd) .none kV7 dc7 pm7 an7 cd7 ct7), sl7⟩) (c7 : PySem.W.codeIn K cd7 "_law_odd" = true) (k7 : PySem.W.keepIn K (.ref f7) = true)
    (a8 : PySem.W.nsIn K mainGlobals "_law_otherwise" = some (some (.ref f8))) (l8 : K.lookup f8 = some ⟨oc8, od8, .func (PySem.W.fnOf "_law_otherwise" "_law_otherwise" (defArgs s__law_otherwise) (defBody s__law_otherwise) (defScope s__law_otherwise) .none kV8 dc8 pm8 an8 cd8 ct8), sl8⟩) (c8 : PySem.W.codeIn K cd8 "_law_otherwise" = true) (k8 : PySem.W.keepIn K (.ref f8) = true)
    (a9 : PySem.W.nsIn K mainGlobals "_law_is_row" = some (some (.ref f9))) (l9 : K.lookup f9 = some ⟨oc9, od9, .func (PySem.W.fnOf "_law_is_row" "_law_is_row" (defArgs s__law_is_row) (defBody s__law_is_row) (defScope s__law_is_row) .none kV9 dc9 pm9 an9 cd9 ct9), sl9⟩) (c9 : PySem.W.codeIn K cd9 "_law_is_row" = true) (k9 : PySem.W.keepIn K (.ref f9) = true)
    (a10 : PySem.W.nsIn K mainGlobals "_law_right" = some (some (.ref f10))) (l10 : K.lookup f10 = some ⟨oc10, od10, .func (PySem.W.fnOf "_law_right" "_law_right" (defArgs s__law_right) (defBody s__law_right) (defScope s__law_right) .none kV10 dc10 pm10 an10 cd10 ct10), sl10⟩) (c10 : PySem.W.codeIn K cd10 "_law_right" = true) (k10 : PySem.W.keepIn K (.ref f10) = true)
    (a11 : PySem.W.nsIn K mainGlobals "law" = some (some (.ref f11))) (l11 : K.lookup f11 = some ⟨oc11, od11, .func (PySem.W.fnOf "law" "law" (defArgs s_law) (defBody s_law) (defScope s_law) .none kV11 dc11 pm11 an11 cd11 ct11), sl11⟩) (c11 : PySem.W.codeIn K cd11 "law" = true) (k11 : PySem.W.keepIn K (.ref f11) = true)
    (z_len : PySem.W.nsIn K mainGlobals "len" = some none)
    (z_abs : PySem.W.nsIn K mainGlobals "abs" = some none)
    (z_int : PySem.W.nsIn K mainGlobals "int" = some none)
    (z_max : PySem.W.nsIn K mainGlobals "max" = some none)
    (z_min : PySem.W.nsIn K mainGlobals "min" = some none)
    (z_all : PySem.W.nsIn K mainGlobals "all" = some none)
    (z_any : PySem.W.nsIn K mainGlobals "any" = some none)
    (z_sum : PySem.W.nsIn K mainGlobals "sum" = some none)
    (z_tuple : PySem.W.nsIn K mainGlobals "tuple" = some none)
    (z_list : PySem.W.nsIn K mainGlobals "list" = some none)
    (z_dict : PySem.W.nsIn K mainGlobals "dict" = some none)
    (z_sorted : PySem.W.nsIn K mainGlobals "sorted" = some none)
    (z_isinstance : PySem.W.nsIn K mainGlobals "isinstance" = some none)
    (z_str : PySem.W.nsIn K mainGlobals "str" = some none)
    (z_bool : PySem.W.nsIn K mainGlobals "bool" = some none)
    (z_range : PySem.W.nsIn K mainGlobals "range" = some none)
    (z_enumerate : PySem.W.nsIn K mainGlobals "enumerate" = some none)
    (z_zip : PySem.W.nsIn K mainGlobals "zip" = some none)
    (z_reversed : PySem.W.nsIn K mainGlobals "reversed" = some none)
    (z_repr : PySem.W.nsIn K mainGlobals "repr" = some none)
    (z_set : PySem.W.nsIn K mainGlobals "set" = some none)
    {tk_LETTERS : Tok} (y_LETTERS : PySem.W.nsIn K mainGlobals "LETTERS" = some (some (.str "abcdefghijklmnopqrstuvwxyz" tk_LETTERS)))
    {tk_LONGEST_NAME : Tok} (y_LONGEST_NAME : PySem.W.nsIn K mainGlobals "LONGEST_NAME" = some (some (.int 6 tk_LONGEST_NAME)))
    : ∃ (fd : FuncData) (os : List (Option (Str × Addr × Addr))) (m : FM), (∀ (s : Shared) (v : Value), BindsTo s fd ⟨[v], []⟩ [("_law_script", v)]) ∧ (∀ t ∈ os.filterMap id, (∃ y ∈ ([] : List Str), PySem.W.tabIn K y = some (t.2.1, t.2.2)) ∧ K.lookup t.2.2 = none) ∧ ((os.filterMap id).map (·.2.2)).Nodup ∧ (∀ base : Heap, K.In base → base.Ns mainGlobals mg → (∀ t ∈ os.filterMap id, LamX.TabB base mg t.2.1 t.2.2) → FnG l.prog w K mg base CX0 16 fa fd ["_law_script"] (@spD (HW.mk l.prog w) m)) ∧ ∀ ns : List Int, ns.length ≤ 63 → ∃ h', m [.scr ns] (tabsO os) = some (.dat (.bool true), h') := by
  letI : HW := HW.mk l.prog w
  have e := hfa.symm.trans (PySem.W.mg_of X G a11)
  cases e
  have B : Bi mg := ⟨PySem.W.mg_none_of X G z_len, PySem.W.mg_none_of X G z_abs, PySem.W.mg_none_of X G z_int, PySem.W.mg_none_of X G z_max, PySem.W.mg_none_of X G z_min, PySem.W.mg_none_of X G z_all, PySem.W.mg_none_of X G z_any, PySem.W.mg_none_of X G z_sum, PySem.W.mg_none_of X G z_tuple, PySem.W.mg_none_of X G z_list, PySem.W.mg_none_of X G z_dict, PySem.W.mg_none_of X G z_sorted, PySem.W.mg_none_of X G z_isinstance, PySem.W.mg_none_of X G z_str, PySem.W.mg_none_of X G z_bool, PySem.W.mg_none_of X G z_range, PySem.W.mg_none_of X G z_enumerate, PySem.W.mg_none_of X G z_zip, PySem.W.mg_none_of X G z_reversed, PySem.W.mg_none_of X G z_repr, PySem.W.mg_none_of X G z_set⟩
  have F0 := fun_mk (st := s_is_name) l0 c0 k0
  have F1 := fun_mk (st := s_is_row) l1 c1 k1
  have F2 := fun_mk (st := s__law_box) l2 c2 k2
  have F3 := fun_mk (st := s__law_take) l3 c3 k3
  have F4 := fun_mk (st := s__law_same) l4 c4 k4
  have F5 := fun_mk (st := s__law_strewn) l5 c5 k5
  have F6 := fun_mk (st := s__law_crew) l6 c6 k6
  have F7 := fun_mk (st := s__law_odd) l7 c7 k7
  have F8 := fun_mk (st := s__law_otherwise) l8 c8 k8
  have F9 := fun_mk (st := s__law_is_row) l9 c9 k9
  have F10 := fun_mk (st := s__law_right) l10 c10 k10
  have F11 := fun_mk (st := s_law) l11 c11 k11
  refine ⟨PySem.W.fnOf "law" "law" (defArgs s_law) (defBody s_law) (defScope s_law) .none kV11 dc11 pm11 an11 cd11 ct11, [], m_law, fun s v => .of_eq rfl, (fun t ht => by cases ht), List.nodup_nil, fun base _ _ _ => ?_, law_true⟩
  have g__law_box := ok__law_box (base := base) _ _ F2 (PySem.W.mg_of X G a2) B 
  have g__law_take := ok__law_take (base := base) _ _ F3 (PySem.W.mg_of X G a3) B 
  have g__law_strewn := ok__law_strewn (base := base) _ _ F5 (PySem.W.mg_of X G a5) B g__law_take
  have g__law_crew := ok__law_crew (base := base) _ _ F6 (PySem.W.mg_of X G a6) B g__law_strewn g__law_take
  have g__law_odd := ok__law_odd (base := base) _ _ F7 (PySem.W.mg_of X G a7) B g__law_take
  have g__law_otherwise := ok__law_otherwise (base := base) _ _ F8 (PySem.W.mg_of X G a8) B g__law_odd g__law_take 12
  have g__law_is_row := ok__law_is_row (base := base) _ _ F9 (PySem.W.mg_of X G a9) B 
  have g__law_same := ok__law_same (base := base) _ _ F4 (PySem.W.mg_of X G a4) B  12
  have g_is_name := ok_is_name (base := base) _ _ F0 (PySem.W.mg_of X G a0) B ⟨_, PySem.W.mg_of X G y_LONGEST_NAME⟩ ⟨_, PySem.W.mg_of X G y_LETTERS⟩
  have g_is_row := ok_is_row (base := base) _ _ F1 (PySem.W.mg_of X G a1) B g_is_name
  have g__law_right := ok__law_right (base := base) _ _ F10 (PySem.W.mg_of X G a10) B g__law_crew g__law_otherwise g__law_is_row g__law_same g__law_take g_is_row
  exact ok_law (base := base) _ _ F11 (PySem.W.mg_of X G a11) B g__law_box g__law_right
end LW
open PySem PySem.W PyProof.Rows
set_option maxRecDepth 100000 in
set_option maxHeartbeats 0 in
theorem PySem.Challenge.cw_standby_k00_rows_or_not_holds : PySem.Challenge.rw_standby_k00_rows_or_not.Holds := by
  w_on; o_law; k_head; (case hw => w_witness2)
  k_fill
  refine DL.walk_gO (l := PySem.Challenge.rw_standby_k00_rows_or_not) (k := 16) (x := "_law_script") (xs := []) rfl rfl ⟨rfl, by decide, by decide⟩ (fun w h Y => by first | exact PySem.W.kIn_of Y | exact PySem.W.km_in_of Y) ?nl (fun x hx => by cases hx) ?F
  case nl => intro w; first | rfl | kernel_rfl | decide +kernel
  case F =>
    intro w mg fa h KX G hmg
    refine' LW.all_mk KX G hmg ?a0 ?l0 ?c0 ?k0 ?a1 ?l1 ?c1 ?k1 ?a2 ?l2 ?c2 ?k2 ?a3 ?l3 ?c3 ?k3 ?a4 ?l4 ?c4 ?k4 ?a5 ?l5 ?c5 ?k5 ?a6 ?l6 ?c6 ?k6 ?a7 ?l7 ?c7 ?k7 ?a8 ?l8 ?c8 ?k8 ?a9 ?l9 ?c9 ?k9 ?a10 ?l10 ?c10 ?k10 ?a11 ?l11 ?c11 ?k11 ?z_len ?z_abs ?z_int ?z_max ?z_min ?z_all ?z_any ?z_sum ?z_tuple ?z_list ?z_dict ?z_sorted ?z_isinstance ?z_str ?z_bool ?z_range ?z_enumerate ?z_zip ?z_reversed ?z_repr ?z_set ?y_LETTERS ?y_LONGEST_NAME
    (case a0 => k_is); (case l0 => k_is); (case c0 => k_is); (case k0 => k_is)
    (case a1 => k_is); (case l1 => k_is); (case c1 => k_is); (case k1 => k_is)
    (case a2 => k_is); (case l2 => k_is); (case c2 => k_is); (case k2 => k_is)
    (case a3 => k_is); (case l3 => k_is); (case c3 => k_is); (case k3 => k_is)
    (case a4 => k_is); (case l4 => k_is); (case c4 => k_is); (case k4 => k_is)
    (case a5 => k_is); (case l5 => k_is); (case c5 => k_is); (case k5 => k_is)
    (case a6 => k_is); (case l6 => k_is); (case c6 => k_is); (case k6 => k_is)
    (case a7 => k_is); (case l7 => k_is); (case c7 => k_is); (case k7 => k_is)
    (case a8 => k_is); (case l8 => k_is); (case c8 => k_is); (case k8 => k_is)
    (case a9 => k_is); (case l9 => k_is); (case c9 => k_is); (case k9 => k_is)
    (case a10 => k_is); (case l10 => k_is); (case c10 => k_is); (case k10 => k_is)
    (case a11 => k_is); (case l11 => k_is); (case c11 => k_is); (case k11 => k_is)
    (case z_len => k_is); (case z_abs => k_is); (case z_int => k_is); (case z_max => k_is); (case z_min => k_is); (case z_all => k_is); (case z_any => k_is); (case z_sum => k_is); (case z_tuple => k_is); (case z_list => k_is); (case z_dict => k_is); (case z_sorted => k_is); (case z_isinstance => k_is); (case z_str => k_is); (case z_bool => k_is); (case z_range => k_is); (case z_enumerate => k_is); (case z_zip => k_is); (case z_reversed => k_is); (case z_repr => k_is); (case z_set => k_is)
    (case y_LETTERS => k_is)
    (case y_LONGEST_NAME => k_is)
