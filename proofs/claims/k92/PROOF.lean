import PyProof.Rows.All
import Wide.All
import OpenK.AllK
import Wide.FinOn
import HandS.Lambda
import HandS.ForMost
import HandS.Small
import HandS.Iter
import HandS.TupAny
import HandS.TupLe
import HandS.More
import HandS.IsInst
import HandS.Strs
import KE.SortData
import HandS.Style
import HandS.Deep
import HandS.Zip
import HandS.Rev
import HandS.NoneIn
import HandS.DictComp
import HandS.Defaults
import PyProof.ReprRoads
import KE.KRevSl
import HandS.Text
import HandS.Ends
import KE.GoesEnum
import KE.KDictZip
import KE.SortKeyHeap
import KE.KSortKey
import HandS.EndTab
import HandS.SetTxt0
import HandS.Set
import HandS.TupSets
import KE.KDictSum
import PyProof.AutoIntOps
import HandS.List
import KE.KDictList
import KE.DataMinMax
import PyProof.Rows.CountFlat
import HandS.RaiseMore
import HandS.Call
import KE.KEqNest
import HandS.DictEq
import HandS.OwnEq
import HandS.Exc
import HandS.ExcOwn
import HandS.ExcIs
import KE.KExcIs
import HandS.Finally
import KE.KUnpackStar
import HandS.ExcInit
import KE.KExcLine
import HandS.Zip0
import OpenK.KOps
import HandS.SetFor
import KE.KDictCopyH
import PyProof.SeqRoads2
import HandS.DictTup
import PyProof.InstNe
import KE.KCallOwn
import HandS.ExcValue
import PySem.Challenge.RW_standby_k92_refusals_made_by_hand
set_option Elab.async false
set_option linter.all false
set_option maxRecDepth 100000
set_option maxRecDepth 100000
set_option maxHeartbeats 4000000
namespace DL
open PySem PySem.Spec PyProof.Rows L2
class HW where
  P : Program
  w : World
def HWX [HW] (X : Cx) : Prop := HW.P = X.prog ∧ HW.w = X.w
abbrev KA := List Key × Addr × V
def KR : List KA → List (List Key × Addr × Value) → Prop := Paired fun p q => p.1 = q.1 ∧ p.2.1 = q.2.1 ∧ RelV p.2.2 q.2.2
def dtP (P : Program) (w : World) (a : Addr) (ks : List KA) (h : Heap) : Prop := ks.length ≤ sizeLine ∧ (a == sysModules) = false ∧ ∃ xs : List (List Key × Addr × Value), KR ks xs ∧
  ∃ o es ep, h.get? a = some o ∧ o.ExactDict ∧ o.data = .dict es ep ∧ es.toList = xs.map (entryOfKey (tupleKind (mixKind P w))) ∧ (xs.map (·.1)).Nodup
abbrev dtO [HW] (a : Addr) (ks : List KA) : HO := .ext (dtP HW.P HW.w a ks)
def KX (H : Hp) (ks : List KA) : Prop := ∀ p ∈ ks, Rd H p.2.1 (.tup (p.1.map kV))
def atA (ks : List KA) (k : List Key) : Option (Addr × V) := (ks.find? fun x => decide (x.1 = k)).map (·.2)
def valA (ks : List KA) (k : List Key) : Option V := (atA ks k).map (·.2)
section
variable {P : Program} {w : World} {H : Hp} {h : Heap} {a : Addr}
theorem KR.len {ks : List KA} {xs : List (List Key × Addr × Value)} (r : KR ks xs) : ks.length = xs.length := Paired.length r
theorem KR.at_ {k : List Key} : ∀ {ks : List KA} {xs : List (List Key × Addr × Value)}, KR ks xs → RelO (valA ks k) ((atKey xs k).map (·.2)) ∧ (atA ks k).isSome = (atKey xs k).isSome
  | _, _, .nil => ⟨trivial, rfl⟩
  | (k1, q1, v1) :: ks, (k2, q2, u2) :: xs, .cons ⟨e1, e2, r⟩ t => by
    have e1 : k1 = k2 := e1
    subst e1
    have ih := KR.at_ (k := k) t
    unfold valA atA atKey at ih ⊢
    simp only [List.find?_cons]
    by_cases e : k1 = k
    · simp only [e, decide_true, Option.map_some]
      exact ⟨r, rfl⟩
    · simp only [e, decide_false]
      exact ih
theorem key_ofR {ks : List Key} (ok : HOk P w H h) (e : Rd H a (.tup (ks.map kV))) : (tupleKind (mixKind P w)).is h ks a := by
  obtain ⟨_, its, r, o, h1, h2, n, h3⟩ := (show ObjOk P w H h a (.tup (ks.map kV)) from rd_of ok e)
  exact ⟨o, its.toArray, n, h1, h2, h3, by simpa using items_are r⟩
theorem dtx_of {ks : List KA} (ok : HOk P w H h) (e : dtP P w a ks h) (hk : KX H ks) : ks.length ≤ sizeLine ∧ (a == sysModules) = false ∧ ∃ xs, KR ks xs ∧ h.DictOfH (tupleKind (mixKind P w)) a xs := by
  obtain ⟨z, y, xs, r, o, es, ep, h1, h2, h3, h4, h5⟩ := e
  refine ⟨z, y, xs, r, o, es, ep, h1, h2, h3, h4, fun x hx => ?_, h5⟩
  have all : ∀ {l : List KA} {m : List (List Key × Addr × Value)}, KR l m → KX H l → ∀ x ∈ m, (tupleKind (mixKind P w)).is h x.1 x.2.1 := by
    intro l m q
    induction q with
    | nil => intro _ x hx; exact nomatch hx
    | @cons p q ps qs hq t ih =>
      intro hk x hx
      rcases List.mem_cons.mp hx with e | hx
      · subst e
        have := hk p List.mem_cons_self
        rw [hq.1, hq.2.1] at this
        exact key_ofR ok this
      · exact ih (fun p hp => hk p (List.mem_cons_of_mem _ hp)) x hx
  exact all r hk x hx
theorem KX.nil : KX H [] := fun p hp => nomatch hp
theorem dtx_rd {φ : Heap → Prop} (ok : HOk P w H h) (e : Rd H a (.ext φ)) : φ h := (show ObjOk P w H h a (.ext φ) from rd_of ok e).1
end
section
variable [HW] {X : Cx} {pins : List (Addr × Obj)} {σ : L2.St} {H : Hp} {s : Shared} {a b : Addr} {ks : List KA} {k : List Key} {v : V} {r : Value} {A : Around} {E : Value → Shared → Prop}
theorem dtxI (W : HWX X) (I : Inv X pins σ H s) (e : Rd H a (dtO a ks)) (hk : KX H ks) : ks.length ≤ sizeLine ∧ (a == sysModules) = false ∧ ∃ xs, KR ks xs ∧ s.heap.DictOfH (tupleKind (mixKind X.prog X.w)) a xs := by
  unfold dtO at e
  rw [W.1, W.2] at e
  exact dtx_of I.hok (dtx_rd I.hok e) hk
theorem dtx_getItem {Q : Value → Shared → Prop} (hu : A.units + 1 < cLine) (W : HWX X) (I : Inv X pins σ H s) (e : Rd H a (dtO a ks)) (hk : KX H ks) (eb : Rd H b (.tup (k.map kV))) (l : valA ks k = some v) (h : ∀ w' s', Inv X pins σ H s' → RelV v w' → Q w' s') :
    wpAny (model X.prog X.w) A (getItem (.ref a) (.ref b)) Q E s := by
  obtain ⟨z, hd, xs, rel, dd⟩ := dtxI W I e hk
  obtain ⟨w', hw, rw'⟩ := RelO.some_of (v := v) (o := (atKey xs k).map (·.2)) (by have := (rel.at_ (k := k)).1; rw [l] at this; exact this)
  obtain ⟨p, hp, hp2⟩ := Option.map_eq_some_iff.mp hw
  refine wpAny_getItem_heap (tupleKind_room_in1 hu) (key_ofR I.hok eb) dd hp ?_
  rw [hp2]
  exact h w' _ (I.tok _) rw'
theorem KX.to {H' : Hp} (hk : KX H ks) (f : ∀ q o, (∃ p ∈ ks, p.2.1 = q) → H q = some o → H' q = some o) : KX H' ks := fun p hp => by
  rcases hk p hp with e | ⟨o, e⟩
  · exact .inl (f _ _ ⟨p, hp, rfl⟩ e)
  · exact .inr ⟨o, f _ _ ⟨p, hp, rfl⟩ e⟩
def DGetX (H : Hp) (a : Addr) (y : V) (r : Option V) : Prop := DGet H a y r ∨ ∃ ks k b, Rd H a (dtO a ks) ∧ KX H ks ∧ y = .ref b ∧ Rd H b (.tup (k.map kV)) ∧ r = valA ks k
theorem dx_getItem {y : V} {u : Value} {Q : Value → Shared → Prop} (hu : A.units + 1 < cLine) (W : HWX X) (I : Inv X pins σ H s) (g : DGetX H a y (some v)) (ry : RelV y u) (h : ∀ w' s', Inv X pins σ H s' → RelV v w' → Q w' s') :
    wpAny (model X.prog X.w) A (getItem (.ref a) u) Q E s := by
  rcases g with g | ⟨ks, k, b, e, hk, ey, eb, l⟩
  · exact d_getItem hu I g ry h
  · subst ey
    cases (show u = Value.ref b from ry)
    exact dtx_getItem hu W I e hk eb l.symm h
theorem dx_typeIs {y : V} {o : Option V} (W : HWX X) (I : Inv X pins σ H s) (g : DGetX H a y o) : s.TypeIs (.ref a) "dict" := by
  rcases g with g | ⟨ks, k, b, e, hk, _, _, _⟩
  · exact dict_typeIs I g
  · obtain ⟨_, _, xs, _, dd⟩ := dtxI W I e hk
    exact dd.typeIs
end
section
variable [HW] {X : Cx} {pins : List (Addr × Obj)} {σ : L2.St} {H : Hp} {s : Shared} {d : Addr} {o : Obj} {ks : List KA}
theorem KR.get : ∀ {ks : List KA} {xs : List (List Key × Addr × Value)} {i : Nat} {k : List Key} {q : Addr} {v : V}, KR ks xs → ks[i]? = some (k, q, v) → ∃ u, xs[i]? = some (k, q, u) ∧ RelV v u
  | _, _, _, _, _, _, .nil, e => by simp at e
  | _, (k', q', u') :: _, 0, _, _, _, .cons ⟨e1, e2, r⟩ _, e => by
    simp at e; subst e
    have e1 : _ = k' := e1
    have e2 : _ = q' := e2
    subst e1 e2
    exact ⟨u', rfl, r⟩
  | _, _, i + 1, _, _, _, .cons _ t, e => by
    obtain ⟨u, h1, h2⟩ := KR.get (i := i) t (by simpa using e)
    exact ⟨u, by simpa using h1, h2⟩
end
end DL
set_option maxRecDepth 100000
set_option maxHeartbeats 4000000
namespace DL
open PySem PySem.Spec PyProof.Rows L2
variable [HW]
abbrev D := PyData
structure Mm where
  u : List Addr
  m : List (Option Addr)
def Mm.Has (M : Mm) (a : Addr) : Prop := a ∈ M.u ∨ some a ∈ M.m
def kP : Key → D
  | .inl i => .int i
  | .inr s => .str s
def prTx : List D → Option (List (Str × Str))
  | [] => some []
  | .tuple [.str a, .str b] :: ds => (prTx ds).map ((a, b) :: ·)
  | _ :: _ => none
def rowS : List D → Option (List Str)
  | [] => some []
  | .str a :: ds => (rowS ds).map (a :: ·)
  | _ :: _ => none
def pairD (ds : List D) : Bool := match prTx ds with
  | some ps => !ps.isEmpty && decide (ps.map (·.1)).Nodup
  | none => false
def rowD (ds : List D) : Bool := match rowS ds with
  | some l => !l.isEmpty && decide l.Nodup
  | none => false
def callD (ds : List D) : Bool := pairD ds || rowD ds
def TupAt (H : Hp) (a : Addr) (xs : List V) (ds : List D) : Prop := (callD ds = false ∧ H a = some (.tup xs)) ∨ (callD ds = true ∧ ∃ o : Obj, o.dict = none ∧ H a = some (.frz o (.tup xs)))
theorem TupAt.to {H H' : Hp} {a : Addr} {xs : List V} {ds : List D} (t : TupAt H a xs ds) (f : ∀ o, H a = some o → H' a = some o) : TupAt H' a xs ds := by
  rcases t with ⟨c, e⟩ | ⟨c, o, h, e⟩
  · exact .inl ⟨c, f _ e⟩
  · exact .inr ⟨c, o, h, f _ e⟩
theorem TupAt.some_ {H : Hp} {a : Addr} {xs : List V} {ds : List D} (t : TupAt H a xs ds) : ∃ o, H a = some o := by
  rcases t with ⟨c, e⟩ | ⟨c, o, h, e⟩
  · exact ⟨_, e⟩
  · exact ⟨_, e⟩
theorem TupAt.rd {H : Hp} {a : Addr} {xs : List V} {ds : List D} (t : TupAt H a xs ds) : Rd H a (.tup xs) := by
  rcases t with ⟨c, e⟩ | ⟨c, o, h, e⟩
  · exact .inl e
  · exact .inr ⟨o, e⟩
theorem TupAt.sq {K : PySem.W.Frag} {H : Hp} {a : Addr} {xs : List V} {ds : List D} (t : TupAt H a xs ds) : SqT K H a xs := .inl t.rd
theorem TupAt.plain {H : Hp} {a : Addr} {xs : List V} {ds : List D} (t : TupAt H a xs ds) (c : callD ds = false) : H a = some (.tup xs) := by
  rcases t with ⟨_, e⟩ | ⟨c', _⟩
  · exact e
  · rw [c] at c'; cases c'
theorem pairD_not {d : D} (ds : List D) (h : ∀ a b : Str, d ≠ .tuple [.str a, .str b]) : pairD (d :: ds) = false := by
  have e : prTx (d :: ds) = none := by
    unfold prTx
    split
    · rename_i q; cases q
    · rename_i a b ds' q; cases q; exact absurd rfl (h a b)
    · rfl
  unfold pairD
  rw [e]
theorem rowD_not {d : D} (ds : List D) (h : ∀ a : Str, d ≠ .str a) : rowD (d :: ds) = false := by
  have e : rowS (d :: ds) = none := by
    unfold rowS
    split
    · rename_i q; cases q
    · rename_i a ds' q; cases q; exact absurd rfl (h a)
    · rfl
  unfold rowD
  rw [e]
theorem callD_not {d : D} (ds : List D) (h : ∀ a b : Str, d ≠ .tuple [.str a, .str b]) (h' : ∀ a : Str, d ≠ .str a) : callD (d :: ds) = false := by
  unfold callD
  rw [pairD_not ds h, rowD_not ds h']
  rfl
mutual
inductive RD (M : Mm) (H : Hp) : V → D → Prop
  | non : RD M H .non .none
  | bl (b : Bool) : RD M H (.bl b) (.bool b)
  | int (i : Int) : RD M H (.int i) (.int i)
  | str (x : Str) : RD M H (.str x) (.str x)
  | tup {a : Addr} {xs : List V} {ds : List D} : ¬ M.Has a → TupAt H a xs ds → RDs M H xs ds → RD M H (.ref a) (.tuple ds)
  | lst {a : Addr} {xs : List V} {ds : List D} : ¬ M.Has a → H a = some (.lst xs) → RDs M H xs ds → RD M H (.ref a) (.list ds)
  | dic {a : Addr} {kvs : List (Key × V)} {es : List (D × D)} : ¬ M.Has a → H a = some (.dK kvs) → RDk M H kvs es → RD M H (.ref a) (.dict es)
  | dit {a : Addr} {o : Obj} {kvs : List KA} {es : List (D × D)} : ¬ M.Has a → H a = some (.frz o (dtO a kvs)) → RDt M H kvs es → RD M H (.ref a) (.dict ((.none, .none) :: es))
inductive RDs (M : Mm) (H : Hp) : List V → List D → Prop
  | nil : RDs M H [] []
  | cons {v : V} {vs : List V} {d : D} {ds : List D} : RD M H v d → RDs M H vs ds → RDs M H (v :: vs) (d :: ds)
inductive RDk (M : Mm) (H : Hp) : List (Key × V) → List (D × D) → Prop
  | nil : RDk M H [] []
  | cons {k : Key} {v : V} {d : D} {kvs : List (Key × V)} {es : List (D × D)} : RD M H v d → RDk M H kvs es → RDk M H ((k, v) :: kvs) ((kP k, d) :: es)
inductive RDt (M : Mm) (H : Hp) : List KA → List (D × D) → Prop
  | nil : RDt M H [] []
  | cons {k : List Key} {q : Addr} {v : V} {d : D} {kvs : List KA} {es : List (D × D)} : ¬ M.Has q → TupAt H q (k.map kV) (k.map kP) → RD M H v d → RDt M H kvs es → RDt M H ((k, q, v) :: kvs) ((.tuple (k.map kP), d) :: es)
end

structure Ext (M M' : Mm) (H H' : Hp) : Prop where
  us : ∀ a ∈ M'.u, a ∈ M.u ∨ H a = none
  trk : ∀ a o, H a = some o → ∃ o', H' a = some o'
  stab : ∀ a o, H a = some o → some a ∉ M.m → H' a = some o
  fresh : ∀ a, some a ∈ M'.m → some a ∈ M.m ∨ H a = none
  len : M.m.length ≤ M'.m.length
  kill : ∀ i : Nat, i < M.m.length → M'.m[i]? = M.m[i]? ∨ M'.m[i]? = some none
structure ExtE (M M' : Mm) (H H' : Hp) : Prop where
  same : M'.u = M.u
  trk : ∀ a o, H a = some o → ∃ o', H' a = some o'
  stab : ∀ a o, H a = some o → some a ∉ M.m → H' a = some o
  fresh : ∀ a, some a ∈ M'.m → some a ∈ M.m ∨ H a = none
  len : M.m.length ≤ M'.m.length
  pre : ∀ i : Nat, i < M.m.length → M'.m[i]? = M.m[i]?
theorem ExtE.ext {M M' : Mm} {H H' : Hp} (x : ExtE M M' H H') : Ext M M' H H' := ⟨fun a m => .inl (x.same ▸ m), x.trk, x.stab, x.fresh, x.len, fun i h => .inl (x.pre i h)⟩
theorem Ext.outm {M M' : Mm} {H H' : Hp} (x : Ext M M' H H') {a : Addr} {o : HO} (n : some a ∉ M.m) (e : H a = some o) : some a ∉ M'.m := fun m =>
  (x.fresh a m).elim n fun z => by rw [e] at z; cases z
theorem Ext.out {M M' : Mm} {H H' : Hp} (x : Ext M M' H H') {a : Addr} {o : HO} (n : ¬ M.Has a) (e : H a = some o) : ¬ M'.Has a := fun m => by
  rcases m with m | m
  · exact (x.us a m).elim (fun z => n (.inl z)) fun z => by rw [e] at z; cases z
  · exact x.outm (fun z => n (.inr z)) e m
theorem Ext.st {M M' : Mm} {H H' : Hp} (x : Ext M M' H H') {a : Addr} {o : HO} (n : ¬ M.Has a) (e : H a = some o) : H' a = some o := x.stab a o e fun z => n (.inr z)
theorem Ext.refl (M : Mm) (H : Hp) : Ext M M H H := ⟨fun _ m => .inl m, fun a o e => ⟨o, e⟩, fun _ _ e _ => e, fun _ m => .inl m, Nat.le_refl _, fun _ _ => .inl rfl⟩
theorem ExtE.refl (M : Mm) (H : Hp) : ExtE M M H H := ⟨rfl, fun a o e => ⟨o, e⟩, fun _ _ e _ => e, fun _ m => .inl m, Nat.le_refl _, fun _ _ => rfl⟩
theorem Ext.trans {M M1 M2 : Mm} {H H1 H2 : Hp} (x : Ext M M1 H H1) (y : Ext M1 M2 H1 H2) : Ext M M2 H H2 where
  us := fun a m => by
    rcases y.us a m with z | z
    · exact x.us a z
    · right
      cases q : H a with
      | none => rfl
      | some o => obtain ⟨o', e⟩ := x.trk a o q; rw [z] at e; cases e
  trk := fun a o e => by obtain ⟨o', e'⟩ := x.trk a o e; exact y.trk a o' e'
  stab := fun a o e n => y.stab a o (x.stab a o e n) (x.outm n e)
  fresh := fun a m => by
    rcases y.fresh a m with m1 | z
    · exact x.fresh a m1
    · by_cases hm : some a ∈ M.m
      · exact .inl hm
      · right
        cases q : H a with
        | none => rfl
        | some o => rw [x.stab a o q hm] at z; cases z
  len := Nat.le_trans x.len y.len
  kill := fun i h => by
    rcases y.kill i (Nat.lt_of_lt_of_le h x.len) with e | e
    · rw [e]; exact x.kill i h
    · exact .inr e
theorem ExtE.trans {M M1 M2 : Mm} {H H1 H2 : Hp} (x : ExtE M M1 H H1) (y : ExtE M1 M2 H1 H2) : ExtE M M2 H H2 where
  same := y.same.trans x.same
  trk := (x.ext.trans y.ext).trk
  stab := (x.ext.trans y.ext).stab
  fresh := (x.ext.trans y.ext).fresh
  len := Nat.le_trans x.len y.len
  pre := fun i h => by rw [y.pre i (Nat.lt_of_lt_of_le h x.len), x.pre i h]
mutual
theorem RD.mono {M M' : Mm} {H H' : Hp} (x : Ext M M' H H') : ∀ {v : V} {d : D}, RD M H v d → RD M' H' v d
  | _, _, .non => .non
  | _, _, .bl b => .bl b
  | _, _, .int i => .int i
  | _, _, .str s => .str s
  | _, _, .tup n e r => .tup (let ⟨_, q⟩ := e.some_; x.out n q) (e.to fun _ q => x.st n q) (RDs.mono x r)
  | _, _, .lst n e r => .lst (x.out n e) (x.st n e) (RDs.mono x r)
  | _, _, .dic n e r => .dic (x.out n e) (x.st n e) (RDk.mono x r)
  | _, _, .dit n e r => .dit (x.out n e) (x.st n e) (RDt.mono x r)
theorem RDs.mono {M M' : Mm} {H H' : Hp} (x : Ext M M' H H') : ∀ {v : List V} {d : List D}, RDs M H v d → RDs M' H' v d
  | _, _, .nil => .nil
  | _, _, .cons a r => .cons (RD.mono x a) (RDs.mono x r)
theorem RDk.mono {M M' : Mm} {H H' : Hp} (x : Ext M M' H H') : ∀ {v : List (Key × V)} {d : List (D × D)}, RDk M H v d → RDk M' H' v d
  | _, _, .nil => .nil
  | _, _, .cons a r => .cons (RD.mono x a) (RDk.mono x r)
theorem RDt.mono {M M' : Mm} {H H' : Hp} (x : Ext M M' H H') : ∀ {v : List KA} {d : List (D × D)}, RDt M H v d → RDt M' H' v d
  | _, _, .nil => .nil
  | _, _, .cons n e a r => .cons (let ⟨_, q⟩ := e.some_; x.out n q) (e.to fun _ q => x.st n q) (RD.mono x a) (RDt.mono x r)
end

theorem RDt.kx {M : Mm} {H : Hp} : ∀ {ks : List KA} {es : List (D × D)}, RDt M H ks es → KX H ks
  | _, _, .nil => KX.nil
  | _, _, .cons n e a r => fun p hp => by
    rcases List.mem_cons.mp hp with z | z
    · subst z; exact e.rd
    · exact RDt.kx r p z
def RF (M : Mm) (H : Hp) (gs : List (Str × V)) (fs : List (Str × D)) : Prop := Paired (fun (p : Str × V) (q : Str × D) => p.1 = q.1 ∧ RD M H p.2 q.2) gs fs
theorem RF.to {M M' : Mm} {H H' : Hp} {gs : List (Str × V)} {fs : List (Str × D)} (r : RF M H gs fs) (h : ∀ v d, RD M H v d → RD M' H' v d) : RF M' H' gs fs := Paired.mapP r fun p q z => ⟨z.1, h _ _ z.2⟩
def XO (C : Addr) (d : Option Addr) (a : Addr) : HO := .ext fun h => ∃ (oe : Obj) (vs : Array Value), h.get? a = some oe ∧ oe.cls = .ref C ∧ oe.dict = d ∧ oe.data = .fields vs
def xk : HO → Bool
  | .ext _ => true
  | .xd _ => true
  | _ => false
def XD (M : Mm) (H : Hp) : Option Addr → List (Str × V) → Prop
  | none, gs => gs = []
  | some d, gs => ¬ M.Has d ∧ H d = some (.xd gs)
theorem XD.to {M M' : Mm} {H H' : Hp} (hn : ∀ b o, H b = some o → ¬ M.Has b → ¬ M'.Has b) (he : ∀ b o, H b = some o → xk o = true → ¬ M.Has b → H' b = some o) : ∀ {d : Option Addr} {gs : List (Str × V)}, XD M H d gs → XD M' H' d gs
  | none, _, e => e
  | some _, _, e => ⟨hn _ _ e.2 e.1, he _ _ e.2 rfl e.1⟩
def RX (M : Mm) (H : Hp) (a C : Addr) (d : Option Addr) (gs : List (Str × V)) (fs : List (Str × D)) : Prop := ¬ M.Has a ∧ H a = some (XO C d a) ∧ XD M H d gs ∧ RF M H gs fs
theorem RX.to {M M' : Mm} {H H' : Hp} {a C : Addr} {d : Option Addr} {gs : List (Str × V)} {fs : List (Str × D)} (r : RX M H a C d gs fs) (hn : ∀ b o, H b = some o → ¬ M.Has b → ¬ M'.Has b) (he : ∀ b o, H b = some o → xk o = true → ¬ M.Has b → H' b = some o) (hd : ∀ v d, RD M H v d → RD M' H' v d) : RX M' H' a C d gs fs :=
  ⟨hn _ _ r.2.1 r.1, he _ _ r.2.1 rfl r.1, r.2.2.1.to hn he, r.2.2.2.to hd⟩
inductive OI where
  | ins (C : Addr) (fs : List (Str × D)) | exc (k : Nat) (C : Addr) (fs : List (Str × D))
def xo : HO → Bool
  | .ext _ => true
  | .xd _ => true
  | .ins _ _ _ => true
  | .lst _ => true
  | _ => false
theorem xo_of {o : HO} (h : xk o = true) : xo o = true := by
  cases o <;> first | rfl | cases h
def ROI (M : Mm) (H : Hp) (v : V) : OI → Prop
  | .ins C fs => ∃ a dx gs, v = .ref a ∧ ¬ M.Has a ∧ H a = some (.ins C dx gs) ∧ RF M H gs fs
  | .exc _ C fs => ∃ a d gs, v = .ref a ∧ RX M H a C d gs fs
theorem ROI.to {M M' : Mm} {H H' : Hp} {v : V} (hn : ∀ b o, H b = some o → ¬ M.Has b → ¬ M'.Has b) (he : ∀ b o, H b = some o → xo o = true → ¬ M.Has b → H' b = some o) (hd : ∀ v d, RD M H v d → RD M' H' v d) : ∀ {o : OI}, ROI M H v o → ROI M' H' v o
  | .ins C fs, ⟨a, dx, gs, e, n, q, r⟩ => ⟨a, dx, gs, e, hn _ _ q n, he _ _ q rfl n, r.to hd⟩
  | .exc _ C fs, ⟨a, d, gs, e, r⟩ => ⟨a, d, gs, e, r.to hn (fun b o q x n => he b o q (xo_of x) n) hd⟩
def RC (M : Mm) (H : Hp) (v : V) : Sum Nat D → Prop
  | .inl n => ∃ b, v = .ref b ∧ (M.m[n]? = some (some b) ∨ M.m[n]? = some none)
  | .inr d => RD M H v d
def refsF : List (Str × Sum Nat D) → List Nat
  | [] => []
  | (_, .inl n) :: r => n :: refsF r
  | (_, .inr _) :: r => refsF r
def RFw (M : Mm) (H : Hp) (gs : List (Str × V)) (fs : List (Str × Sum Nat D)) : Prop := Paired (fun (p : Str × V) (q : Str × Sum Nat D) => p.1 = q.1 ∧ RC M H p.2 q.2) gs fs
theorem RFw.to {M M' : Mm} {H H' : Hp} : ∀ {gs : List (Str × V)} {fs : List (Str × Sum Nat D)}, RFw M H gs fs → (∀ n ∈ refsF fs, ∀ z, M.m[n]? = some z → M'.m[n]? = some z ∨ M'.m[n]? = some none) → (∀ v d, RD M H v d → RD M' H' v d) → RFw M' H' gs fs
  | _, _, .nil, _, _ => .nil
  | _ :: _, (_, .inl n) :: _, .cons ⟨e, b, ev, r⟩ t, k, hd => .cons ⟨e, b, ev, by
      rcases r with r | r
      · exact k n List.mem_cons_self _ r
      · rcases k n List.mem_cons_self _ r with q | q <;> exact .inr q⟩ (RFw.to t (fun n m => k n (List.mem_cons_of_mem _ m)) hd)
  | _ :: _, (_, .inr d) :: _, .cons ⟨e, r⟩ t, k, hd => .cons ⟨e, hd _ _ r⟩ (RFw.to t k hd)
theorem RFw.lt {M : Mm} {H : Hp} : ∀ {gs : List (Str × V)} {fs : List (Str × Sum Nat D)}, RFw M H gs fs → ∀ n ∈ refsF fs, n < M.m.length
  | _, _, .nil, n, m => by cases m
  | _ :: _, (_, .inl k) :: _, .cons ⟨e, b, ev, r⟩ t, n, m => by
      rcases List.mem_cons.mp m with z | z
      · subst z
        rcases r with r | r <;> exact (List.getElem?_eq_some_iff.mp r).1
      · exact RFw.lt t n z
  | _ :: _, (_, .inr d) :: _, .cons ⟨e, r⟩ t, n, m => RFw.lt t n m
abbrev ROs (M : Mm) (H : Hp) (xs : List V) (os : List OI) : Prop := Paired (fun v o => ROI M H v o) xs os
theorem ROs.to {M M' : Mm} {H H' : Hp} {xs : List V} {os : List OI} (r : ROs M H xs os) (hn : ∀ b o, H b = some o → ¬ M.Has b → ¬ M'.Has b) (he : ∀ b o, H b = some o → xo o = true → ¬ M.Has b → H' b = some o) (hd : ∀ v d, RD M H v d → RD M' H' v d) : ROs M' H' xs os := Paired.mapP r fun v o z => z.to hn he hd
inductive MO where
  | lst (ds : List D) | dic (es : List (D × D)) | dit (es : List (D × D)) | tab (q : Str) (P : Addr) | ins (C : Addr) (fs : List (Str × D)) | obj (C : Addr) (fs : List (Str × Sum Nat D)) | los (os : List OI)
abbrev Hh := List (Option MO)
@[simp] def MO.refs : MO → List Nat
  | .obj _ fs => refsF fs
  | _ => []
def RO (M : Mm) (H : Hp) (a : Addr) : MO → Prop
  | .lst ds => ∃ xs, H a = some (.lst xs) ∧ RDs M H xs ds
  | .dic es => ∃ kvs, H a = some (.dK kvs) ∧ RDk M H kvs es
  | .dit es => ∃ kvs, H a = some (dtO a kvs) ∧ RDt M H kvs es
  | .ins C fs => ∃ dx gs, H a = some (.ins C dx gs) ∧ RF M H gs fs
  | .obj C fs => ∃ dx gs, H a = some (.ins C dx gs) ∧ RFw M H gs fs
  | .los os => ∃ xs, H a = some (.lst xs) ∧ ROs M H xs os
  | .tab q P => a = P ∧ ∃ ps : Array Value, H a = some (.tbl ps) ∧ TriplesOk ps.toList ∧ ∀ pos cv, codeAmong pos ps.toList = some cv → ∃ c, cv = .ref c ∧ ¬ M.Has c ∧ H c = some (LamX.CodeO c q)
def tpO : HO → Bool
  | .tup _ => true
  | .frz _ (.tup _) => true
  | _ => false
structure Rep (M : Mm) (H : Hp) (h : Hh) : Prop where
  us : ∀ a ∈ M.u, some a ∉ M.m ∧ ∃ o, H a = some o ∧ tpO o = false
  len : M.m.length = h.length
  inj : ∀ (i j : Nat) (a : Addr), M.m[i]? = some (some a) → M.m[j]? = some (some a) → i = j
  at_ : ∀ (i : Nat) (a : Addr), M.m[i]? = some (some a) → ∃ o, h[i]? = some (some o) ∧ RO M H a o
  dead : ∀ i : Nat, M.m[i]? = some none → h[i]? = some none
theorem RO.move {M M' : Mm} {H H' : Hp} (x : Ext M M' H H') {a : Addr} {o : MO} (e : H' a = H a) (r : RO M H a o) : RO M' H' a o := by
  cases o with
  | lst ds => obtain ⟨xs, h, r⟩ := r; exact ⟨xs, e.trans h, r.mono x⟩
  | dic ds => obtain ⟨xs, h, r⟩ := r; exact ⟨xs, e.trans h, r.mono x⟩
  | dit ds => obtain ⟨xs, h, r⟩ := r; exact ⟨xs, e.trans h, r.mono x⟩
  | ins C fs => obtain ⟨dx, gs, h, r⟩ := r; exact ⟨dx, gs, e.trans h, r.to fun _ _ => RD.mono x⟩
  | obj C fs => obtain ⟨dx, gs, h, r⟩ := r; exact ⟨dx, gs, e.trans h, r.to (fun n _ z q => by rw [← q]; exact x.kill n (List.getElem?_eq_some_iff.mp q).1) fun _ _ => RD.mono x⟩
  | los os => obtain ⟨xs, h, r⟩ := r; exact ⟨xs, e.trans h, r.to (fun _ _ q n => x.out n q) (fun _ _ q _ n => x.st n q) fun _ _ => RD.mono x⟩
  | tab q P =>
    obtain ⟨z, ps, h, t, r⟩ := r
    refine ⟨z, ps, e.trans h, t, fun pos cv hc => ?_⟩
    obtain ⟨c, e1, n, e2⟩ := r pos cv hc
    exact ⟨c, e1, x.out n e2, x.st n e2⟩
theorem RO.some_ {M : Mm} {H : Hp} {a : Addr} {o : MO} (r : RO M H a o) : ∃ u, H a = some u := by
  cases o with
  | lst ds => obtain ⟨xs, h, r⟩ := r; exact ⟨_, h⟩
  | dic ds => obtain ⟨xs, h, r⟩ := r; exact ⟨_, h⟩
  | dit ds => obtain ⟨xs, h, r⟩ := r; exact ⟨_, h⟩
  | ins C fs => obtain ⟨dx, gs, h, r⟩ := r; exact ⟨_, h⟩
  | obj C fs => obtain ⟨dx, gs, h, r⟩ := r; exact ⟨_, h⟩
  | los os => obtain ⟨xs, h, r⟩ := r; exact ⟨_, h⟩
  | tab q P => obtain ⟨_, ps, h, _⟩ := r; exact ⟨_, h⟩
theorem RO.kind {M : Mm} {H : Hp} {a : Addr} {o : MO} (r : RO M H a o) : ∃ u, H a = some u ∧ tpO u = false := by
  cases o with
  | lst ds => obtain ⟨xs, h, r⟩ := r; exact ⟨_, h, rfl⟩
  | dic ds => obtain ⟨xs, h, r⟩ := r; exact ⟨_, h, rfl⟩
  | dit ds => obtain ⟨xs, h, r⟩ := r; exact ⟨_, h, rfl⟩
  | ins C fs => obtain ⟨dx, gs, h, r⟩ := r; exact ⟨_, h, rfl⟩
  | obj C fs => obtain ⟨dx, gs, h, r⟩ := r; exact ⟨_, h, rfl⟩
  | los os => obtain ⟨xs, h, r⟩ := r; exact ⟨_, h, rfl⟩
  | tab q P => obtain ⟨_, ps, h, _⟩ := r; exact ⟨_, h, rfl⟩
theorem Rep.tracked {M : Mm} {H : Hp} {h : Hh} (r : Rep M H h) {a : Addr} (m : M.Has a) : ∃ u, H a = some u ∧ tpO u = false := by
  rcases m with m | m
  · exact (r.us a m).2
  · obtain ⟨i, hi, e⟩ := List.getElem_of_mem m
    obtain ⟨o, _, ro⟩ := r.at_ i a (by rw [List.getElem?_eq_getElem hi, e])
    exact ro.kind
theorem Rep.new {M : Mm} {H : Hp} {h : Hh} (r : Rep M H h) {p : Addr} (n : H p = none) : ¬ M.Has p := fun m => by
  obtain ⟨u, e, _⟩ := r.tracked m
  rw [n] at e; cases e
theorem trk_upd {H : Hp} {p : Addr} {o : HO} : ∀ a u, H a = some u → ∃ u', upd H p o a = some u' := fun a u e => by
  by_cases h : a = p
  · subst h; exact ⟨o, upd_same⟩
  · exact ⟨u, by rw [upd_ne h]; exact e⟩
theorem ext_new {M : Mm} {H : Hp} {p : Addr} {o : HO} (n : H p = none) : ExtE M M H (upd H p o) :=
  ⟨rfl, trk_upd, fun a u e _ => by rw [upd_ne (ne_of_none e n)]; exact e, fun _ m => .inl m, Nat.le_refl _, fun _ _ => rfl⟩
theorem Rep.upd_new {M : Mm} {H : Hp} {h : Hh} (r : Rep M H h) {p : Addr} {o : HO} (n : H p = none) : Rep M (upd H p o) h :=
  ⟨fun a m => by
    obtain ⟨h1, u, e, ht⟩ := r.us a m
    exact ⟨h1, u, by rw [upd_ne (ne_of_none e n)]; exact e, ht⟩, r.len, r.inj, fun i a e => by
    obtain ⟨u, hu, ro⟩ := r.at_ i a e
    obtain ⟨z, hz⟩ := ro.some_
    exact ⟨u, hu, ro.move (ext_new n).ext (upd_ne (ne_of_none hz n))⟩, r.dead⟩
def Mm.more (M : Mm) (p : Addr) : Mm := ⟨M.u, M.m ++ [some p]⟩
theorem ext_add {M : Mm} {H : Hp} {p : Addr} {o : HO} (n : H p = none) : ExtE M (M.more p) H (upd H p o) :=
  ⟨rfl, trk_upd, fun a u e _ => by rw [upd_ne (ne_of_none e n)]; exact e, fun a m => by
    rcases List.mem_append.mp m with m | m
    · exact .inl m
    · right
      have : a = p := by simpa using m
      rw [this]; exact n, by simp [Mm.more], fun i hi => List.getElem?_append_left hi⟩
theorem Rep.add {M : Mm} {H : Hp} {h : Hh} (r : Rep M H h) {p : Addr} {o : HO} {m : MO} (n : H p = none) (ro : RO (M.more p) (upd H p o) p m) : Rep (M.more p) (upd H p o) (h ++ [some m]) := by
  have nm := r.new n
  have cases_ : ∀ (i : Nat) (z : Option Addr), (M.m ++ [some p])[i]? = some z → (i < M.m.length ∧ M.m[i]? = some z) ∨ (i = M.m.length ∧ z = some p) := fun i z e => by
    by_cases hi : i < M.m.length
    · rw [List.getElem?_append_left hi] at e
      exact .inl ⟨hi, e⟩
    · rw [List.getElem?_append_right (by omega)] at e
      by_cases h0 : i - M.m.length = 0
      · rw [h0] at e
        exact .inr ⟨by omega, by simpa using e.symm⟩
      · rw [List.getElem?_eq_none (by simp; omega)] at e
        cases e
  refine ⟨fun a m => ?_, by simp [Mm.more, r.len], fun i j a e1 e2 => ?_, fun i a e => ?_, fun i e => ?_⟩
  · obtain ⟨h1, u, e, ht⟩ := r.us a m
    refine ⟨fun z => ?_, u, by rw [upd_ne (ne_of_none e n)]; exact e, ht⟩
    rcases List.mem_append.mp z with z | z
    · exact h1 z
    · have : a = p := by simpa using z
      rw [this, n] at e; cases e
  · rcases cases_ i _ e1 with ⟨h1, e1⟩ | ⟨h1, e1⟩ <;> rcases cases_ j _ e2 with ⟨h2, e2⟩ | ⟨h2, e2⟩
    · exact r.inj i j a e1 e2
    · cases e2; exact absurd (Or.inr (List.mem_of_getElem? e1)) nm
    · cases e1; exact absurd (Or.inr (List.mem_of_getElem? e2)) nm
    · omega
  · rcases cases_ i _ e with ⟨h1, e1⟩ | ⟨h1, e1⟩
    · obtain ⟨u, hu, q⟩ := r.at_ i a e1
      obtain ⟨z, hz⟩ := q.some_
      exact ⟨u, by rw [List.getElem?_append_left (by rw [← r.len]; exact h1)]; exact hu, q.move (ext_add n).ext (upd_ne (ne_of_none hz n))⟩
    · cases e1
      subst h1
      exact ⟨m, by rw [r.len]; simp, ro⟩
  · rcases cases_ i _ e with ⟨h1, e1⟩ | ⟨h1, e1⟩
    · rw [List.getElem?_append_left (by rw [← r.len]; exact h1)]
      exact r.dead i e1
    · cases e1
theorem ext_set {M : Mm} {H : Hp} {n : Nat} {a : Addr} {o : HO} (e : M.m[n]? = some (some a)) : ExtE M M H (upd H a o) :=
  ⟨rfl, trk_upd, fun b u q nb => by rw [upd_ne (fun z => nb (by rw [z]; exact List.mem_of_getElem? e))]; exact q, fun _ m => .inl m, Nat.le_refl _, fun _ _ => rfl⟩
theorem Rep.set {M : Mm} {H : Hp} {h : Hh} (r : Rep M H h) {n : Nat} {a : Addr} {o : HO} {m : MO} (e : M.m[n]? = some (some a)) (ro : RO M (upd H a o) a m) : Rep M (upd H a o) (h.set n (some m)) := by
  have hn : n < h.length := by
    obtain ⟨u, hu, _⟩ := r.at_ n a e
    exact (List.getElem?_eq_some_iff.mp hu).1
  refine ⟨fun b mb => ?_, by simpa using r.len, r.inj, fun i b q => ?_, fun i q => ?_⟩
  · obtain ⟨h1, u, q, ht⟩ := r.us b mb
    exact ⟨h1, u, by rw [upd_ne (fun z => h1 (by rw [z]; exact List.mem_of_getElem? e))]; exact q, ht⟩
  · by_cases hi : i = n
    · subst hi
      rw [e] at q; cases q
      exact ⟨m, by rw [List.getElem?_set_self hn], ro⟩
    · obtain ⟨u, hu, q2⟩ := r.at_ i b q
      have hb : b ≠ a := fun z => hi (r.inj i n a (by rw [← z]; exact q) e)
      exact ⟨u, by rw [List.getElem?_set_ne (Ne.symm hi)]; exact hu, q2.move (ext_set e).ext (upd_ne hb)⟩
  · have hi : n ≠ i := fun z => by subst z; rw [e] at q; cases q
    rw [List.getElem?_set_ne hi]
    exact r.dead i q
def RWs (M : Mm) (H : Hp) (v : V) (os : List OI) : Prop := ∃ a xs, v = .ref a ∧ ¬ M.Has a ∧ H a = some (.lst xs) ∧ Paired (fun v o => ROI M H v o) xs os
theorem RWs.to {M M' : Mm} {H H' : Hp} {v : V} {os : List OI} (r : RWs M H v os) (hn : ∀ b o, H b = some o → ¬ M.Has b → ¬ M'.Has b) (he : ∀ b o, H b = some o → xo o = true → ¬ M.Has b → H' b = some o) (hd : ∀ v d, RD M H v d → RD M' H' v d) : RWs M' H' v os := by
  obtain ⟨a, xs, e, n, q, p⟩ := r
  exact ⟨a, xs, e, hn _ _ q n, he _ _ q rfl n, Paired.mapP p fun v o z => z.to hn he hd⟩
inductive W where
  | dat (d : D) | ref (n : Nat) | scr (ns : List Int) | pack (its : List (Sum Nat D)) | lock (es : List (D × D)) | ins (C : Addr) (fs : List (Str × D)) | exc (k : Nat) (C : Addr) (fs : List (Str × D)) | objs (os : List OI)
inductive RPs (M : Mm) (H : Hp) : List V → List (Sum Nat D) → Prop
  | nil : RPs M H [] []
  | ref {n : Nat} {a : Addr} {vs : List V} {ds : List (Sum Nat D)} : M.m[n]? = some (some a) → RPs M H vs ds → RPs M H (.ref a :: vs) (.inl n :: ds)
  | dat {v : V} {d : D} {vs : List V} {ds : List (Sum Nat D)} : RD M H v d → RPs M H vs ds → RPs M H (v :: vs) (.inr d :: ds)
theorem RPs.move {M M' : Mm} {H H' : Hp} (hm : ∀ (n : Nat) (a : Addr), M.m[n]? = some (some a) → M'.m[n]? = some (some a)) (hd : ∀ v d, RD M H v d → RD M' H' v d) : ∀ {vs : List V} {ds : List (Sum Nat D)}, RPs M H vs ds → RPs M' H' vs ds
  | _, _, .nil => .nil
  | _, _, .ref e r => .ref (hm _ _ e) (r.move hm hd)
  | _, _, .dat e r => .dat (hd _ _ e) (r.move hm hd)
abbrev Env := List (Option W)
def RV (M : Mm) (H : Hp) (v : V) : W → Prop
  | .dat d => RD M H v d
  | .ref n => ∃ a, M.m[n]? = some (some a) ∧ v = .ref a
  | .scr ns => ∃ a o, v = .ref a ∧ ¬ M.Has a ∧ H a = some (.frz o (.lst (ns.map V.int)))
  | .pack its => ∃ a xs, v = .ref a ∧ ¬ M.Has a ∧ H a = some (.lst xs) ∧ RPs M H xs its
  | .lock es => ∃ a o kvs, v = .ref a ∧ ¬ M.Has a ∧ H a = some (.frz o (.dK kvs)) ∧ RDk M H kvs es
  | .ins C fs => ∃ a dx gs, v = .ref a ∧ ¬ M.Has a ∧ H a = some (.ins C dx gs) ∧ RF M H gs fs
  | .exc _ C fs => ∃ a d gs, v = .ref a ∧ RX M H a C d gs fs
  | .objs os => RWs M H v os
theorem lt_of_get {α : Type} {l : List α} {i : Nat} {x : α} (e : l[i]? = some x) : i < l.length := (List.getElem?_eq_some_iff.mp e).1
theorem RV.mono {M M' : Mm} {H H' : Hp} (x : ExtE M M' H H') {v : V} : ∀ {w : W}, RV M H v w → RV M' H' v w
  | .dat _, r => RD.mono x.ext r
  | .ref n, ⟨a, e, r⟩ => ⟨a, by rw [x.pre n (lt_of_get e)]; exact e, r⟩
  | .scr ns, ⟨a, o, e, n, q⟩ => ⟨a, o, e, x.ext.out n q, x.ext.st n q⟩
  | .pack its, ⟨a, xs, e, n, q, r⟩ => ⟨a, xs, e, x.ext.out n q, x.ext.st n q, r.move (fun i b z => by rw [x.pre i (lt_of_get z)]; exact z) fun _ _ => RD.mono x.ext⟩
  | .lock es, ⟨a, o, kvs, e, n, q, r⟩ => ⟨a, o, kvs, e, x.ext.out n q, x.ext.st n q, r.mono x.ext⟩
  | .ins C fs, ⟨a, dx, gs, e, n, q, r⟩ => ⟨a, dx, gs, e, x.ext.out n q, x.ext.st n q, r.to fun _ _ => RD.mono x.ext⟩
  | .exc _ C fs, ⟨a, d, gs, e, r⟩ => ⟨a, d, gs, e, r.to (fun _ _ q n => x.ext.out n q) (fun _ _ q _ n => x.ext.st n q) fun _ _ => RD.mono x.ext⟩
  | .objs _, r => RWs.to r (fun _ _ q n => x.ext.out n q) (fun _ _ q _ n => x.ext.st n q) fun _ _ => RD.mono x.ext
inductive RVs (M : Mm) (H : Hp) : List V → List W → Prop
  | nil : RVs M H [] []
  | cons {v : V} {vs : List V} {d : W} {ds : List W} : RV M H v d → RVs M H vs ds → RVs M H (v :: vs) (d :: ds)
theorem RVs.mono {M M' : Mm} {H H' : Hp} (x : ExtE M M' H H') : ∀ {vs : List V} {ws : List W}, RVs M H vs ws → RVs M' H' vs ws
  | _, _, .nil => .nil
  | _, _, .cons a r => .cons (a.mono x) (r.mono x)
theorem RVs.length {M : Mm} {H : Hp} : ∀ {vs : List V} {ws : List W}, RVs M H vs ws → vs.length = ws.length
  | _, _, .nil => rfl
  | _, _, .cons _ r => by rw [List.length_cons, List.length_cons, r.length]
theorem RDs.length {M : Mm} {H : Hp} : ∀ {vs : List V} {ws : List D}, RDs M H vs ws → vs.length = ws.length
  | _, _, .nil => rfl
  | _, _, .cons _ r => by rw [List.length_cons, List.length_cons, r.length]
def RS (M : Mm) (H : Hp) (ρ : Env) (σ : L2.St) : Prop := ρ.length = σ.length ∧ ∀ (i : Nat) (w : W), ρ[i]? = some (some w) → ∃ v, σ[i]? = some (some v) ∧ RV M H v w
theorem RS.mono {M M' : Mm} {H H' : Hp} (x : ExtE M M' H H') {ρ : Env} {σ : L2.St} (r : RS M H ρ σ) : RS M' H' ρ σ := ⟨r.1, fun i w e => by
  obtain ⟨v, e1, q⟩ := r.2 i w e
  exact ⟨v, e1, q.mono x⟩⟩
theorem RS.set {M : Mm} {H : Hp} {ρ : Env} {σ : L2.St} (r : RS M H ρ σ) {i : Nat} {v : V} {w : W} (q : RV M H v w) : RS M H (ρ.set i (some w)) (σ.set i (some v)) := by
  refine ⟨by simp [r.1], fun j u e => ?_⟩
  by_cases hj : i = j
  · subst hj
    by_cases hi : i < ρ.length
    · rw [List.getElem?_set_self hi] at e
      cases e
      exact ⟨v, by rw [List.getElem?_set_self (by rw [← r.1]; exact hi)], q⟩
    · rw [List.getElem?_eq_none (by simpa using hi)] at e; cases e
  · rw [List.getElem?_set_ne hj] at e ⊢
    exact r.2 j u e
def obnd {α β : Type} (r : Option (α × Hh)) (k : α → Hh → Option (β × Hh)) : Option (β × Hh) := match r with
  | some (a, h) => k a h
  | none => none
@[simp] theorem obnd_some {α β : Type} (a : α) (h : Hh) (k : α → Hh → Option (β × Hh)) : obnd (some (a, h)) k = k a h := rfl
@[simp] theorem obnd_none {α β : Type} (k : α → Hh → Option (β × Hh)) : obnd none k = none := rfl
def Cont {α β : Type} (rel : Mm → Hp → β → α → Prop) (r : Option (α × Hh)) (M : Mm) (H : Hp) (Q : β → Hp → Prop) : Prop :=
  ∃ w h', r = some (w, h') ∧ ∀ M' H' v, ExtE M M' H H' → Rep M' H' h' → rel M' H' v w → Q v H'
theorem Cont.bind {α β γ δ : Type} {rel : Mm → Hp → β → α → Prop} {r : Option (γ × Hh)} {k : γ → Hh → Option (α × Hh)} {M : Mm} {H : Hp} {Q : β → Hp → Prop} (c : Cont rel (obnd r k) M H Q) :
    ∃ a h1, r = some (a, h1) ∧ ∀ M1 H1, ExtE M M1 H H1 → Cont rel (k a h1) M1 H1 Q := by
  obtain ⟨w, h', e, q⟩ := c
  cases r with
  | none => cases e
  | some p =>
    obtain ⟨a, h1⟩ := p
    exact ⟨a, h1, rfl, fun M1 H1 x => ⟨w, h', e, fun M' H' v y => q M' H' v (x.trans y)⟩⟩
theorem Cont.fin {α β : Type} {rel : Mm → Hp → β → α → Prop} {w : α} {h : Hh} {M : Mm} {H : Hp} {Q : β → Hp → Prop} (c : Cont rel (some (w, h)) M H Q) {M' : Mm} {H' : Hp} {v : β} (x : ExtE M M' H H') (r : Rep M' H' h) (q : rel M' H' v w) : Q v H' := by
  obtain ⟨w', h', e, k⟩ := c
  cases e
  exact k M' H' v x r q
def tX {α β : Type} (rel : Mm → Hp → β → α → Prop) (f : Env → Hh → Option (α × Hh)) : L2.St → Hp → (β → Hp → Prop) → Prop := fun σ H Q => ∃ M h ρ, Rep M H h ∧ RS M H ρ σ ∧ Cont rel (f ρ h) M H Q
abbrev EM := Env → Hh → Option (W × Hh)
abbrev tE : EM → TE := tX RV
abbrev BM := Env → Hh → Option (Bool × Hh)
abbrev tT : BM → TT := tX fun _ _ (b : Bool) (c : Bool) => b = c
abbrev AM := Env → Hh → Option (List W × Hh)
abbrev tA : AM → TA := tX RVs
abbrev OM := Env → Hh → Option (Option Int × Hh)
abbrev tO : OM → TO := tX fun _ _ (b : Option Int) (c : Option Int) => b = c
abbrev DE (X : Cx) (e : Expr) (f : EM) : Prop := PE X e (tE f)
abbrev DT (X : Cx) (e : Expr) (f : BM) : Prop := PT X e (tT f)
abbrev DA (X : Cx) (es : List Expr) (f : AM) : Prop := PA X es (tA f)
abbrev DK (X : Cx) (es : List Keyword) (f : AM) : Prop := PK X es (tA f)
theorem _root_.L2.PE.weak {X : Cx} {e : Expr} {t t' : TE} (h : PE X e t) (i : ∀ σ H Q, t' σ H Q → t σ H Q) : PE X e t' := ⟨fun pins s σ H Q I q => h.run pins s σ H Q I (i σ H Q q)⟩
theorem _root_.L2.PT.weak {X : Cx} {e : Expr} {t t' : TT} (h : PT X e t) (i : ∀ σ H Q, t' σ H Q → t σ H Q) : PT X e t' := ⟨fun pins s σ H Q I q => h.run pins s σ H Q I (i σ H Q q)⟩
theorem _root_.L2.PA.weak {X : Cx} {e : List Expr} {t t' : TA} (h : PA X e t) (i : ∀ σ H Q, t' σ H Q → t σ H Q) : PA X e t' := ⟨fun pos pins s σ H Q I q => h.run pos pins s σ H Q I (i σ H Q q)⟩
theorem _root_.L2.PK.weak {X : Cx} {e : List Keyword} {t t' : TA} (h : PK X e t) (i : ∀ σ H Q, t' σ H Q → t σ H Q) : PK X e t' := ⟨fun pos pins s σ H Q I q => h.run pos pins s σ H Q I (i σ H Q q)⟩
theorem _root_.L2.PS.weak {X : Cx} {e : Stmt} {t t' : TS} (h : PS X e t) (i : ∀ D σ H, t' D σ H → t D σ H) : PS X e t' := ⟨fun pins s σ H Q I q => h.run pins s σ H Q I (i Q σ H q)⟩
theorem _root_.L2.PSs.weak {X : Cx} {e : List Stmt} {t t' : TS} (h : PSs X e t) (i : ∀ D σ H, t' D σ H → t D σ H) : PSs X e t' := ⟨fun pins s σ H Q I q => h.run pins s σ H Q I (i Q σ H q)⟩
theorem _root_.L2.PG.weak {X : Cx} {e : Expr} {t t' : TG} (h : PG X e t) (i : ∀ v σ H Q, t' v σ H Q → t v σ H Q) : PG X e t' := ⟨fun pins s σ H v u Q I r q => h.run pins s σ H v u Q I r (i v σ H Q q)⟩
theorem _root_.L2.PI.weak {X : Cx} {tg e : Expr} {t t' : TI} (h : PI X tg e t) (i : ∀ σ H Q, t' σ H Q → t σ H Q) : PI X tg e t' := ⟨fun pins s σ H R I q => h.run pins s σ H R I (i σ H R q)⟩
section
variable {X : Cx}
def fVar (i : Nat) : EM := fun ρ h => match ρ[i]? with
  | some (some w) => some (w, h)
  | _ => none
theorem dv (i : Nat) {x : Str} {pos : Pos} (h : PE X (.Name x pos) (tVar i)) : DE X (.Name x pos) (fVar i) := h.weak fun σ H Q => by
  rintro ⟨M, h, ρ, r, rs, c⟩
  unfold fVar at c
  split at c
  · rename_i w e
    obtain ⟨v, e1, rv⟩ := rs.2 i w e
    exact ⟨v, e1, c.fin (.refl _ _) r rv⟩
  · obtain ⟨_, _, e, _⟩ := c; cases e
def fC (d : D) : EM := fun _ h => some (.dat d, h)
theorem d_const {e : Expr} {v : V} {d : D} (h : PE X e (tC v)) (q : ∀ M H, RD M H v d) : DE X e (fC d) := h.weak fun σ H Q => by
  rintro ⟨M, h, ρ, r, rs, c⟩
  exact c.fin (.refl _ _) r (q M H)
theorem d_int {i j pos} : DE X (.Constant (.int i) j pos) (fC (.int i)) := d_const pe_int fun _ _ => .int i
theorem d_bl {i j pos} : DE X (.Constant (.bool i) j pos) (fC (.bool i)) := d_const pe_bl fun _ _ => .bl i
theorem d_non {j pos} : DE X (.Constant .none j pos) (fC .none) := d_const pe_non fun _ _ => .non
theorem d_str {i j pos} : DE X (.Constant (.str i) j pos) (fC (.str i)) := d_const pe_str fun _ _ => .str i
def fNil : AM := fun _ h => some ([], h)
def fCons (f : EM) (g : AM) : AM := fun ρ h => obnd (f ρ h) fun w h1 => obnd (g ρ h1) fun ws h2 => some (w :: ws, h2)
theorem da_nil : DA X [] fNil := pa_nil.weak fun σ H Q => by
  rintro ⟨M, h, ρ, r, rs, c⟩
  exact c.fin (.refl _ _) r .nil
theorem cons_imp {f : EM} {g : AM} : ∀ σ H Q, tA (fCons f g) σ H Q → tCons (tE f) (tA g) σ H Q := fun σ H Q => by
  rintro ⟨M, h, ρ, r, rs, c⟩
  obtain ⟨w, h1, e1, c1⟩ := Cont.bind (δ := Unit) c
  refine ⟨M, h, ρ, r, rs, w, h1, e1, fun M1 H1 v x1 r1 v1 => ⟨M1, h1, ρ, r1, rs.mono x1, ?_⟩⟩
  obtain ⟨ws, h2, e2, c2⟩ := Cont.bind (δ := Unit) (c1 M1 H1 x1)
  exact ⟨ws, h2, e2, fun M2 H2 vs x2 r2 v2 => (c2 M2 H2 x2).fin (.refl _ _) r2 (.cons (v1.mono x2) v2)⟩
theorem da_cons {e : Expr} {es : List Expr} {f : EM} {g : AM} (he : DE X e f) (hr : DA X es g) (hs : starEach (e :: es) X.env = (false, eval e X.env) :: starEach es X.env := by rfl) : DA X (e :: es) (fCons f g) :=
  (pa_cons he hr hs).weak cons_imp
theorem dk_nil : DK X [] fNil := pk_nil.weak fun σ H Q => by
  rintro ⟨M, h, ρ, r, rs, c⟩
  exact c.fin (.refl _ _) r .nil
theorem dk_cons {nm : Option Str} {kpos : Pos} {e : Expr} {es : List Keyword} {f : EM} {g : AM} (he : DE X e f) (hr : DK X es g) : DK X (⟨nm, e, kpos⟩ :: es) (fCons f g) :=
  (pk_cons he hr).weak cons_imp
def Sem2 (r : R2) (sem : W → W → Hh → Option (W × Hh)) : Prop := ∀ (M : Mm) (H : Hp) (h : Hh) (x y : V) (wx wy : W) (Q : VK), Rep M H h → RV M H x wx → RV M H y wy → Cont RV (sem wx wy h) M H Q → r x y H Q
def f2 (sem : W → W → Hh → Option (W × Hh)) (f g : EM) : EM := fun ρ h => obnd (f ρ h) fun a h1 => obnd (g ρ h1) fun b h2 => sem a b h2
theorem op_imp {r : R2} {sem : W → W → Hh → Option (W × Hh)} {f g : EM} (hs : Sem2 r sem) : ∀ σ H Q, tE (f2 sem f g) σ H Q → tOp r (tE f) (tE g) σ H Q := fun σ H Q => by
  rintro ⟨M, h, ρ, r, rs, c⟩
  obtain ⟨w, h1, e1, c1⟩ := Cont.bind (δ := Unit) c
  refine ⟨M, h, ρ, r, rs, w, h1, e1, fun M1 H1 v x1 r1 v1 => ⟨M1, h1, ρ, r1, rs.mono x1, ?_⟩⟩
  obtain ⟨w2, h2, e2, c2⟩ := Cont.bind (δ := Unit) (c1 M1 H1 x1)
  exact ⟨w2, h2, e2, fun M2 H2 v2 x2 r2 q2 => hs M2 H2 h2 _ _ w w2 Q r2 (v1.mono x2) q2 (c2 M2 H2 x2)⟩
theorem d_op {a b : Expr} {op : Operator} {pos : Pos} {r : R2} {sem : W → W → Hh → Option (W × Hh)} {f g : EM} (ho : OpR X (binaryOp op) r) (hs : Sem2 r sem) (ha : DE X a f) (hb : DE X b g) : DE X (.BinOp a op b pos) (f2 sem f g) :=
  (pe_op ho ha hb).weak (op_imp hs)
theorem d_cmp {a b : Expr} {op : CmpOp} {pos : Pos} {r : R2} {sem : W → W → Hh → Option (W × Hh)} {f g : EM} (ho : OpR X (compareOp op) r) (hs : Sem2 r sem) (ha : DE X a f) (hb : DE X b g) (hm : behindInMarks op b = false) : DE X (.Compare a [op] [b] pos) (f2 sem f g) :=
  (pe_cmpR ho ha hb hm).weak (op_imp hs)
end
end DL
set_option maxRecDepth 100000
set_option maxHeartbeats 4000000
namespace DL
open PySem PySem.Spec PyProof.Rows L2
variable [HW]
def deref (h : Hh) : W → Option D
  | .dat d => some d
  | .ref n => match h[n]? with
    | some (some (.lst ds)) => some (.list ds)
    | some (some (.dic es)) => some (.dict es)
    | some (some (.dit es)) => some (.dict ((.none, .none) :: es))
    | _ => none
  | .scr _ => none
  | .pack _ => none
  | .lock _ => none
  | .ins _ _ => none
  | .exc _ _ _ => none
  | .objs _ => none
@[simp] theorem deref_dat (h : Hh) (d : D) : deref h (.dat d) = some d := rfl
def RR (M : Mm) (H : Hp) (v : V) : D → Prop
  | .list ds => ∃ a xs, v = .ref a ∧ H a = some (.lst xs) ∧ RDs M H xs ds
  | .dict es => (∃ a kvs, v = .ref a ∧ H a = some (.dK kvs) ∧ RDk M H kvs es) ∨ ∃ a kvs es', es = (.none, .none) :: es' ∧ v = .ref a ∧ Rd H a (dtO a kvs) ∧ RDt M H kvs es'
  | d => RD M H v d
theorem RD.rr {M : Mm} {H : Hp} {v : V} : ∀ {d : D}, RD M H v d → RR M H v d
  | .none, r => r
  | .bool _, r => r
  | .int _, r => r
  | .str _, r => r
  | .tuple _, r => r
  | .list _, .lst _ e r => ⟨_, _, rfl, e, r⟩
  | .dict _, .dic _ e r => .inl ⟨_, _, rfl, e, r⟩
  | .dict _, .dit _ e r => .inr ⟨_, _, _, rfl, rfl, .inr ⟨_, e⟩, r⟩
theorem deref_rr {M : Mm} {H : Hp} {h : Hh} {v : V} {w : W} {d : D} (rep : Rep M H h) (r : RV M H v w) (e : deref h w = some d) : RR M H v d := by
  cases w with
  | dat d' => cases e; exact r.rr
  | scr ns => cases e
  | pack its => cases e
  | lock its => cases e
  | ins C fs => cases e
  | exc k C fs => cases e
  | objs os => cases e
  | ref n =>
    obtain ⟨a, ea, rfl⟩ := r
    obtain ⟨o, ho, ro⟩ := rep.at_ n a ea
    simp only [deref, ho] at e
    cases o with
    | lst ds => cases e; obtain ⟨xs, h1, h2⟩ := ro; exact ⟨a, xs, rfl, h1, h2⟩
    | dic ds => cases e; obtain ⟨xs, h1, h2⟩ := ro; exact .inl ⟨a, xs, rfl, h1, h2⟩
    | dit ds => cases e; obtain ⟨xs, h1, h2⟩ := ro; exact .inr ⟨a, xs, _, rfl, rfl, .inl h1, h2⟩
    | tab q P => cases e
    | ins C fs => cases e
    | obj C fs => cases e
    | los os => cases e
section
variable {M : Mm} {H : Hp} {h : Hh} {v : V}
theorem rr_int {i : Int} (r : RR M H v (.int i)) : v = .int i := by cases (show RD M H v _ from r); rfl
theorem rr_str {i : Str} (r : RR M H v (.str i)) : v = .str i := by cases (show RD M H v _ from r); rfl
theorem rr_bl {i : Bool} (r : RR M H v (.bool i)) : v = .bl i := by cases (show RD M H v _ from r); rfl
theorem rr_non (r : RR M H v .none) : v = .non := by cases (show RD M H v _ from r); rfl
theorem rr_tup {ds : List D} (r : RR M H v (.tuple ds)) : ∃ a xs, v = .ref a ∧ ¬ M.Has a ∧ TupAt H a xs ds ∧ RDs M H xs ds := by
  cases (show RD M H v _ from r) with
  | tup n e q => exact ⟨_, _, rfl, n, e, q⟩
theorem RDs.get : ∀ {xs : List V} {ds : List D} {i : Nat} {d : D}, RDs M H xs ds → ds[i]? = some d → ∃ v, xs[i]? = some v ∧ RD M H v d
  | _, _, _, _, .nil, e => by simp at e
  | _, _, 0, _, .cons r _, e => by simp at e; subst e; exact ⟨_, rfl, r⟩
  | _, _, i + 1, _, .cons _ t, e => by
    obtain ⟨u, h1, h2⟩ := RDs.get (i := i) t (by simpa using e)
    exact ⟨u, by simpa using h1, h2⟩
theorem RDs.app : ∀ {xs : List V} {ds : List D} {ys : List V} {es : List D}, RDs M H xs ds → RDs M H ys es → RDs M H (xs ++ ys) (ds ++ es)
  | _, _, _, _, .nil, q => q
  | _, _, _, _, .cons r t, q => .cons r (RDs.app t q)
theorem RDs.take : ∀ {xs : List V} {ds : List D} (n : Nat), RDs M H xs ds → RDs M H (xs.take n) (ds.take n)
  | _, _, 0, _ => .nil
  | _, _, _ + 1, .nil => .nil
  | _, _, n + 1, .cons r t => .cons r (RDs.take n t)
theorem RDs.drop : ∀ {xs : List V} {ds : List D} (n : Nat), RDs M H xs ds → RDs M H (xs.drop n) (ds.drop n)
  | _, _, 0, r => r
  | _, _, _ + 1, .nil => .nil
  | _, _, n + 1, .cons _ t => RDs.drop n t
theorem RDs.rev : ∀ {xs : List V} {ds : List D}, RDs M H xs ds → RDs M H xs.reverse ds.reverse
  | _, _, .nil => .nil
  | _, _, .cons r t => by rw [List.reverse_cons, List.reverse_cons]; exact RDs.app (RDs.rev t) (.cons r .nil)
theorem RDs.set : ∀ {xs : List V} {ds : List D} (n : Nat) {v : V} {d : D}, RDs M H xs ds → RD M H v d → RDs M H (xs.set n v) (ds.set n d)
  | _, _, _, _, _, .nil, _ => .nil
  | _, _, 0, _, _, .cons r t, q => .cons q t
  | _, _, n + 1, _, _, .cons r t, q => .cons r (RDs.set n t q)
theorem RDs.erase : ∀ {xs : List V} {ds : List D} (n : Nat), RDs M H xs ds → RDs M H (xs.eraseIdx n) (ds.eraseIdx n)
  | _, _, _, .nil => .nil
  | _, _, 0, .cons r t => t
  | _, _, n + 1, .cons r t => .cons r (RDs.erase n t)
theorem RDs.rep {xs : List V} {ds : List D} (r : RDs M H xs ds) : ∀ k : Nat, RDs M H (List.replicate k xs).flatten (List.replicate k ds).flatten
  | 0 => .nil
  | k + 1 => by rw [List.replicate_succ, List.replicate_succ, List.flatten_cons, List.flatten_cons]; exact RDs.app r (RDs.rep r k)
theorem RDs.atI {xs : List V} {ds : List D} {i : Int} {d : D} (r : RDs M H xs ds) (e : L2.atI ds i = some d) : ∃ v, L2.atI xs i = some v ∧ RD M H v d := by
  unfold L2.atI at e ⊢
  rw [r.length]
  cases q : ixN ds.length i with
  | none => rw [q] at e; cases e
  | some j => rw [q] at e; exact r.get e
end
def mkL (m : Bool) (ds : List D) (h : Hh) : Option (W × Hh) := if m = true then some (.ref h.length, h ++ [some (.lst ds)]) else some (.dat (.list ds), h)
@[simp] theorem mkL_false (ds : List D) (h : Hh) : mkL false ds h = some (.dat (.list ds), h) := rfl
@[simp] theorem mkL_true (ds : List D) (h : Hh) : mkL true ds h = some (.ref h.length, h ++ [some (.lst ds)]) := rfl
theorem mkL_fin {m : Bool} {ds : List D} {h : Hh} {M : Mm} {H : Hp} {Q : VK} {p : Addr} {xs : List V} (rep : Rep M H h) (n : H p = none) (r : RDs M H xs ds) (c : Cont RV (mkL m ds h) M H Q) : Q (.ref p) (upd H p (.lst xs)) := by
  cases m with
  | false => exact c.fin (ext_new n) (rep.upd_new n) (RD.lst (rep.new n) upd_same (r.mono (ext_new n).ext))
  | true => exact c.fin (ext_add n) (rep.add n ⟨xs, upd_same, r.mono (ext_add n).ext⟩) ⟨p, by simp [Mm.more, ← rep.len], rfl⟩
theorem mkT_fin {ds : List D} {h : Hh} {M : Mm} {H : Hp} {Q : VK} {p : Addr} {xs : List V} (rep : Rep M H h) (n : H p = none) (r : RDs M H xs ds) (hd : callD ds = false) (c : Cont RV (some (.dat (.tuple ds), h)) M H Q) : Q (.ref p) (upd H p (.tup xs)) :=
  c.fin (ext_new n) (rep.upd_new n) (RD.tup (rep.new n) (.inl ⟨hd, upd_same⟩) (r.mono (ext_new n).ext))
def bareO (b : Bool) (o : Obj) (xs : List V) : HO := if b = true then .frz o (.tup xs) else .tup xs
theorem mkB_fin {ds : List D} {h : Hh} {M : Mm} {H : Hp} {Q : VK} {p : Addr} {xs : List V} {o : Obj} (rep : Rep M H h) (n : H p = none) (r : RDs M H xs ds) (ho : o.dict = none) (c : Cont RV (some (.dat (.tuple ds), h)) M H Q) : Q (.ref p) (upd H p (bareO (callD ds) o xs)) := by
  cases hd : callD ds with
  | false => exact mkT_fin rep n r hd c
  | true => exact c.fin (ext_new n) (rep.upd_new n) (RD.tup (rep.new n) (.inr ⟨hd, o, ho, upd_same⟩) (r.mono (ext_new n).ext))
theorem bare_ok {P : Program} {w : World} {H : Hp} {h' : Heap} {a : Addr} {xs : List V} {o : Obj} (b : Bool) (e : h'.get? a = some o) (ok : ∀ G, ObjOk P w G h' a (.tup xs)) : ObjOk P w H h' a (bareO b o xs) := by
  cases b with
  | false => exact ok _
  | true => exact ⟨e, ok _⟩
theorem Cont.here {d : D} {h : Hh} {M : Mm} {H : Hp} {Q : VK} {v : V} (c : Cont RV (some (.dat d, h)) M H Q) (rep : Rep M H h) (r : RD M H v d) : Q v H := c.fin (.refl _ _) rep r
theorem Cont.no {α β : Type} {rel : Mm → Hp → β → α → Prop} {M : Mm} {H : Hp} {Q : β → Hp → Prop} (c : Cont rel none M H Q) : False := by obtain ⟨_, _, e, _⟩ := c; cases e
def ok (d : D) (h : Hh) : Option (W × Hh) := some (.dat d, h)
def addW (m : Bool) (x y : W) (h : Hh) : Option (W × Hh) := match deref h x, deref h y with
  | some (.int i), some (.int j) => ok (.int (i + j)) h
  | some (.str a), some (.str b) => if a.length + b.length ≤ sizeLine then ok (.str (a ++ b)) h else none
  | some (.tuple a), some (.tuple b) => if a.length + b.length ≤ sizeLine then ok (.tuple (a ++ b)) h else none
  | some (.list a), some (.list b) => if a.length + b.length ≤ sizeLine then mkL m (a ++ b) h else none
  | _, _ => none
section
variable {X : Cx}
def rCatB (K : PySem.W.Frag) : R2 := fun x y H Q => ∃ a b vs ws, x = .ref a ∧ y = .ref b ∧ SqT K H a vs ∧ SqT K H b ws ∧ vs.length + ws.length ≤ sizeLine ∧
  (vs = [] → Q (.ref b) H) ∧ (vs ≠ [] → ws = [] → Q (.ref a) H) ∧ (vs ≠ [] → ws ≠ [] → ∃ bb : Bool, ∀ p o, H p = none → o.dict = none → Q (.ref p) (upd H p (bareO bb o (vs ++ ws))))
theorem op_catB : OpR X (binaryOp .Add) (rCatB X.K) := by
  rintro pins s σ H x y v u Q I rx ry ⟨a, b, vs, ws, rfl, rfl, ha, hb, hz, f0, f1, f2⟩
  by_cases e : vs = [] ∨ ws = []
  · exact op_catA pins s σ H _ _ v u Q I rx ry ⟨a, b, vs, ws, rfl, rfl, ha, hb, hz, f0, f1, fun n1 n2 => (e.elim n1 n2).elim⟩
  · have n1 : vs ≠ [] := fun z => e (.inl z)
    have n2 : ws ≠ [] := fun z => e (.inr z)
    obtain ⟨bb, f⟩ := f2 n1 n2
    cases rx
    cases ry
    obtain ⟨l1, r1, p1, _⟩ := I.tuple ha
    obtain ⟨l2, r2, p2, _⟩ := I.tuple hb
    apply HT.cat_tup p1 p2 (fun z => n1 (r1.nil_iff.mp z)) (fun z => absurd (r2.nil_iff.mp z) n2)
    · intro _
      refine ⟨.ref s.heap.objs.size, _, I.laid (t' := s.toks) (o := bareO bb _ (vs ++ ws)) (fun _ _ q => Heap.get?_push_of_some _ q) (Nat.le_refl _) (bare_ok bb (Heap.get?_push_size _ rfl) fun G => ⟨?_, _, r1.append r2, IsTup.new _ _⟩), rfl, f _ _ (I.hok.fresh (Nat.le_refl _)) rfl⟩
      rw [List.length_append]
      exact hz
    · rw [← r1.length, ← r2.length]
      exact hz
theorem s_add (m : Bool) : Sem2 (fun x y H Q => rI0 (fun i j => .int (i + j)) x y H Q ∨ (∃ i j, x = .str i ∧ y = .str j ∧ i.length + j.length ≤ sizeLine ∧ Q (.str (i ++ j)) H) ∨ rCatB X.K x y H Q ∨ rCat x y H Q) (addW m) := by
  intro M H h x y wx wy Q rep rx ry c
  unfold addW at c
  split at c
  · rename_i i j h1 h2
    obtain rfl := rr_int (deref_rr rep rx h1)
    obtain rfl := rr_int (deref_rr rep ry h2)
    exact .inl ⟨i, j, rfl, rfl, c.here rep (.int _)⟩
  · rename_i i j h1 h2
    obtain rfl := rr_str (deref_rr rep rx h1)
    obtain rfl := rr_str (deref_rr rep ry h2)
    split at c
    · rename_i hz
      exact .inr (.inl ⟨i, j, rfl, rfl, hz, c.here rep (.str _)⟩)
    · exact c.no.elim
  · rename_i i j h1 h2
    obtain ⟨a, xs, rfl, na, ha, qa⟩ := rr_tup (deref_rr rep rx h1)
    obtain ⟨b, ys, rfl, nb, hb, qb⟩ := rr_tup (deref_rr rep ry h2)
    split at c
    · rename_i hz
      refine .inr (.inr (.inl ⟨a, b, xs, ys, rfl, rfl, .inl ha.rd, .inl hb.rd, by rw [qa.length, qb.length]; exact hz, fun e => ?_, fun _ e => ?_, fun _ _ => ⟨callD (i ++ j), fun p o np ho => ?_⟩⟩))
      · subst e; cases qa
        exact c.here rep (.tup nb hb qb)
      · subst e; cases qb; rw [List.append_nil] at c
        exact c.here rep (.tup na ha qa)
      · exact mkB_fin rep np (qa.app qb) ho c
    · exact c.no.elim
  · rename_i i j h1 h2
    obtain ⟨a, xs, rfl, ha, qa⟩ := deref_rr rep rx h1
    obtain ⟨b, ys, rfl, hb, qb⟩ := deref_rr rep ry h2
    split at c
    · rename_i hz
      exact .inr (.inr (.inr ⟨a, b, xs, ys, rfl, rfl, ha, hb, by rw [qa.length, qb.length]; exact hz, fun p np => mkL_fin rep np (qa.app qb) c⟩))
    · exact c.no.elim
  · exact c.no.elim
theorem d_add (m : Bool) {a b : Expr} {pos : Pos} {f g : EM} (ha : DE X a f) (hb : DE X b g) : DE X (.BinOp a .Add b pos) (f2 (addW m) f g) :=
  d_op (op_add.or (op_add_str.or (op_catB.or op_cat))) (s_add m) ha hb
def intW (C : Int → Int → Bool) (g : Int → Int → Int) (x y : W) (h : Hh) : Option (W × Hh) := match deref h x, deref h y with
  | some (.int i), some (.int j) => if C i j = true then ok (.int (g i j)) h else none
  | _, _ => none
theorem s_int {C : Int → Int → Prop} {Cb : Int → Int → Bool} {g : Int → Int → Int} (hc : ∀ i j, Cb i j = true → C i j) : Sem2 (rI C fun i j => .int (g i j)) (intW Cb g) := by
  intro M H h x y wx wy Q rep rx ry c
  unfold intW at c
  split at c
  · rename_i i j h1 h2
    obtain rfl := rr_int (deref_rr rep rx h1)
    obtain rfl := rr_int (deref_rr rep ry h2)
    split at c
    · rename_i hz
      exact ⟨i, j, rfl, rfl, hc i j hz, c.here rep (.int _)⟩
    · exact c.no.elim
  · exact c.no.elim
theorem op_subC : OpR X (binaryOp .Sub) (rI (fun _ _ => True) fun i j => .int (i - j)) := fun pins s σ H x y v u Q I rx ry ⟨i, j, e1, e2, _, q⟩ => op_sub pins s σ H x y v u Q I rx ry ⟨i, j, e1, e2, q⟩
def subW := intW (fun _ _ => true) fun i j => i - j
theorem d_sub {a b : Expr} {pos : Pos} {f g : EM} (ha : DE X a f) (hb : DE X b g) : DE X (.BinOp a .Sub b pos) (f2 subW f g) := d_op op_subC (s_int fun _ _ _ => trivial) ha hb
def modW := intW (fun _ j => decide (0 < j)) fun i j => i % j
theorem d_mod {a b : Expr} {pos : Pos} {f g : EM} (ha : DE X a f) (hb : DE X b g) : DE X (.BinOp a .Mod b pos) (f2 modW f g) := d_op op_mod (s_int fun _ _ h => of_decide_eq_true h) ha hb
def divW := intW (fun _ j => decide (0 < j ∧ j < 1073741824)) fun i j => i / j
theorem d_div {a b : Expr} {pos : Pos} {f g : EM} (ha : DE X a f) (hb : DE X b g) : DE X (.BinOp a .FloorDiv b pos) (f2 divW f g) := d_op op_fdiv (s_int fun _ _ h => by simpa [CDiv] using h) ha hb
def powW := intW (fun i j => decide (0 ≤ j ∧ j ≤ 1000000 ∧ i.natAbs < 18446744073709551616)) fun i j => i ^ j.toNat
theorem d_pow {a b : Expr} {pos : Pos} {f g : EM} (ha : DE X a f) (hb : DE X b g) : DE X (.BinOp a .Pow b pos) (f2 powW f g) := d_op op_pow (s_int fun _ _ h => by simpa [CPow] using h) ha hb
def mulW (m : Bool) (x y : W) (h : Hh) : Option (W × Hh) := match deref h x, deref h y with
  | some (.int i), some (.int j) => if ((-18446744073709551616 < i && i < 18446744073709551616) || (-18446744073709551616 < j && j < 18446744073709551616)) = true then ok (.int (i * j)) h else none
  | some (.list a), some (.int k) => if (0 ≤ k && k < 1000000 && a.length * k.toNat ≤ sizeLine) = true then mkL m (List.replicate k.toNat a).flatten h else none
  | _, _ => none
theorem s_mul (m : Bool) : Sem2 (fun x y H Q => rI CMul (fun i j => .int (i * j)) x y H Q ∨ rRep x y H Q) (mulW m) := by
  intro M H h x y wx wy Q rep rx ry c
  unfold mulW at c
  split at c
  · rename_i i j h1 h2
    obtain rfl := rr_int (deref_rr rep rx h1)
    obtain rfl := rr_int (deref_rr rep ry h2)
    split at c
    · rename_i hz
      refine .inl ⟨i, j, rfl, rfl, ?_, c.here rep (.int _)⟩
      simpa [CMul] using hz
    · exact c.no.elim
  · rename_i i j h1 h2
    obtain ⟨a, xs, rfl, ha, qa⟩ := deref_rr rep rx h1
    obtain rfl := rr_int (deref_rr rep ry h2)
    split at c
    · rename_i hz
      simp only [Bool.and_eq_true, decide_eq_true_eq] at hz
      refine .inr ⟨a, j, xs, rfl, rfl, ha, by omega, by omega, by rw [qa.length]; exact hz.2, fun p np => mkL_fin rep np (qa.rep _) c⟩
    · exact c.no.elim
  · exact c.no.elim
theorem d_mul (m : Bool) {a b : Expr} {pos : Pos} {f g : EM} (ha : DE X a f) (hb : DE X b g) : DE X (.BinOp a .Mult b pos) (f2 (mulW m) f g) := d_op (op_mul.or op_rep) (s_mul m) ha hb
def fNeg (f : EM) : EM := fun ρ h => obnd (f ρ h) fun w h1 => match w with
  | .dat (.int i) => ok (.int (-i)) h1
  | _ => none
def bok (b : Bool) (h : Hh) : Option (W × Hh) := some (.dat (.bool b), h)
def ltW (g : Int → Int → Bool) (k : List Nat → List Nat → Bool) (x y : W) (h : Hh) : Option (W × Hh) := match deref h x, deref h y with
  | some (.int i), some (.int j) => bok (g i j) h
  | some (.str i), some (.str j) => bok (k i.cps.toList j.cps.toList) h
  | _, _ => none
theorem s_lt {g : Int → Int → Bool} {k : List Nat → List Nat → Bool} : Sem2 (fun x y H Q => rI0 (fun i j => .bl (g i j)) x y H Q ∨ ∃ i j, x = .str i ∧ y = .str j ∧ Q (.bl (k i.cps.toList j.cps.toList)) H) (ltW g k) := by
  intro M H h x y wx wy Q rep rx ry c
  unfold ltW at c
  split at c
  · rename_i i j h1 h2
    obtain rfl := rr_int (deref_rr rep rx h1)
    obtain rfl := rr_int (deref_rr rep ry h2)
    exact .inl ⟨i, j, rfl, rfl, c.here rep (.bl _)⟩
  · rename_i i j h1 h2
    obtain rfl := rr_str (deref_rr rep rx h1)
    obtain rfl := rr_str (deref_rr rep ry h2)
    exact .inr ⟨i, j, rfl, rfl, c.here rep (.bl _)⟩
  · exact c.no.elim
def lt_W := ltW (fun i j => decide (i < j)) fun i j => decide (i < j)
def gt_W := ltW (fun i j => decide (j < i)) fun i j => decide (j < i)
def le_W := ltW (fun i j => decide (i ≤ j)) fun i j => !decide (j < i)
def ge_W := ltW (fun i j => decide (j ≤ i)) fun i j => !decide (i < j)
theorem d_gt {a b : Expr} {pos : Pos} {f g : EM} (ha : DE X a f) (hb : DE X b g) : DE X (.Compare a [.Gt] [b] pos) (f2 gt_W f g) := d_cmp (op_gt.or op_gt_str) s_lt ha hb (nomark _)
theorem d_ge {a b : Expr} {pos : Pos} {f g : EM} (ha : DE X a f) (hb : DE X b g) : DE X (.Compare a [.GtE] [b] pos) (f2 ge_W f g) := d_cmp (op_ge.or op_ge_str) s_lt ha hb (nomark _)
end
mutual
theorem RD.dp {K : PySem.W.Frag} {M : Mm} {H : Hp} : ∀ {v : V} {d : D}, RD M H v d → d.canLay0 = true → Dp K H v d
  | _, _, .non, _ => .non
  | _, _, .bl b, _ => .bl b
  | _, _, .int i, _ => .int i
  | _, _, .str x, _ => .str x
  | _, _, .tup _ e r, h => .tup e.sq (RDs.dp r (by simpa [PyData.canLay0] using h))
  | _, _, .lst _ e r, h => .lst (.of e) (RDs.dp r (by simpa [PyData.canLay0] using h))
  | _, _, .dic _ _ _, h => by simp [PyData.canLay0] at h
  | _, _, .dit _ _ _, h => by simp [PyData.canLay0] at h
theorem RDs.dp {K : PySem.W.Frag} {M : Mm} {H : Hp} : ∀ {v : List V} {d : List D}, RDs M H v d → PyData.canLayAll0 d = true → DpAll K H v d
  | _, _, .nil, _ => .nil
  | _, _, .cons a r, h => by
    simp only [PyData.canLayAll0, Bool.and_eq_true] at h
    exact .cons (RD.dp a h.1) (RDs.dp r h.2)
end
theorem rr_dp {K : PySem.W.Frag} {M : Mm} {H : Hp} {v : V} : ∀ {d : D}, RR M H v d → d.canLay0 = true → Dp K H v d
  | .none, r, h => RD.dp r h
  | .bool _, r, h => RD.dp r h
  | .int _, r, h => RD.dp r h
  | .str _, r, h => RD.dp r h
  | .tuple _, r, h => RD.dp r h
  | .list _, ⟨_, _, e, h1, h2⟩, h => by subst e; exact .lst (.of h1) (h2.dp (by simpa [PyData.canLay0] using h))
  | .dict _, _, h => by simp [PyData.canLay0] at h
def eqS : D → D → Option Bool
  | .int i, .int j => some (decide (i = j))
  | .str i, .str j => some (decide (i = j))
  | .bool i, .bool j => some (decide (i = j))
  | .none, .none => some true
  | .none, .int _ => some false
  | .none, .str _ => some false
  | .none, .bool _ => some false
  | .int _, .none => some false
  | .str _, .none => some false
  | .bool _, .none => some false
  | .int _, .str _ => some false
  | .str _, .int _ => some false
  | .bool _, .str _ => some false
  | .str _, .bool _ => some false
  | _, _ => none
theorem eqS_ok {M : Mm} {H : Hp} {x y : V} {a b : D} {r : Bool} (ra : RR M H x a) (rb : RR M H y b) (e : eqS a b = some r) : scal x y = true ∧ r = decide (x = y) := by
  cases a <;> cases b <;> simp only [eqS, Option.some.injEq, reduceCtorEq] at e <;> subst e <;> cases (show RD M H x _ from ra) <;> cases (show RD M H y _ from rb) <;> simp [scal]
def shp (d : D) : Bool := d.canLay0 && decide (d.depth ≤ 64)
def eqW (neg : Bool) (x y : W) (h : Hh) : Option (W × Hh) := match deref h x, deref h y with
  | some a, some b => match eqS a b with
    | some r => bok (if neg = true then !r else r) h
    | none => if shp a && shp b then bok (if neg = true then !PyData.eqv a b else PyData.eqv a b) h else none
  | _, _ => none
section
variable {X : Cx}
theorem s_eq : Sem2 (fun x y H Q => rEq x y H Q ∨ rEqD X.K x y H Q) (eqW false) := by
  intro M H h x y wx wy Q rep rx ry c
  unfold eqW at c
  split at c
  · rename_i a b h1 h2
    have ra := deref_rr rep rx h1
    have rb := deref_rr rep ry h2
    split at c
    · rename_i r e
      obtain ⟨e1, e2⟩ := eqS_ok ra rb e
      subst e2
      exact .inl ⟨e1, c.here rep (.bl _)⟩
    · split at c
      · rename_i hz
        rw [Bool.and_eq_true] at hz
        exact .inr ⟨a, b, rr_dp ra (SeqAt.canLay_of_shaped hz.1), rr_dp rb (SeqAt.canLay_of_shaped hz.2), hz.1, hz.2, c.here rep (.bl _)⟩
      · exact c.no.elim
  · exact c.no.elim
theorem s_ne : Sem2 (fun x y H Q => rNe x y H Q ∨ rNeD X.K x y H Q) (eqW true) := by
  intro M H h x y wx wy Q rep rx ry c
  unfold eqW at c
  split at c
  · rename_i a b h1 h2
    have ra := deref_rr rep rx h1
    have rb := deref_rr rep ry h2
    split at c
    · rename_i r e
      obtain ⟨e1, e2⟩ := eqS_ok ra rb e
      subst e2
      exact .inl ⟨e1, c.here rep (.bl _)⟩
    · split at c
      · rename_i hz
        rw [Bool.and_eq_true] at hz
        exact .inr ⟨a, b, rr_dp ra (SeqAt.canLay_of_shaped hz.1), rr_dp rb (SeqAt.canLay_of_shaped hz.2), hz.1, hz.2, c.here rep (.bl _)⟩
      · exact c.no.elim
  · exact c.no.elim
theorem d_eq {k : Nat} (hr : Room k X.A) {a b : Expr} {pos : Pos} {f g : EM} (ha : DE X a f) (hb : DE X b g) : DE X (.Compare a [.Eq] [b] pos) (f2 (eqW false) f g) := d_cmp (op_eq.or (op_eqD hr.units)) s_eq ha hb (nomark _)
def isW (neg : Bool) (x y : W) (h : Hh) : Option (W × Hh) := match x, y with
  | .dat (.bool a), .dat (.bool b) => bok (if neg = true then !decide (a = b) else decide (a = b)) h
  | .dat .none, .dat .none => bok (!neg) h
  | _, .dat .none => bok neg h
  | _, _ => none
theorem rv_non {M : Mm} {H : Hp} {w : W} (r : RV M H .non w) : w = .dat .none := by
  cases w with
  | dat d => cases (show RD M H _ d from r); rfl
  | ref n => obtain ⟨_, _, e⟩ := r; cases e
  | scr n => obtain ⟨_, _, e, _⟩ := r; cases e
  | pack its => obtain ⟨_, _, e, _⟩ := r; cases e
  | lock its => obtain ⟨_, _, _, e, _⟩ := r; cases e
  | ins C fs => obtain ⟨_, _, _, e, _⟩ := r; cases e
  | exc k C fs => obtain ⟨_, _, _, e, _⟩ := r; cases e
  | objs os => obtain ⟨_, _, e, _⟩ := r; cases e
theorem s_is : Sem2 (fun x y H Q => (y = .non ∧ Q (.bl (decide (x = .non))) H) ∨ ∃ a b, x = .bl a ∧ y = .bl b ∧ Q (.bl (decide (a = b))) H) (isW false) := by
  intro M H h x y wx wy Q rep rx ry c
  unfold isW at c
  split at c
  · cases (show RD M H _ _ from rx); cases (show RD M H _ _ from ry)
    exact .inr ⟨_, _, rfl, rfl, c.here rep (.bl _)⟩
  · cases (show RD M H _ _ from rx); cases (show RD M H _ _ from ry)
    exact .inl ⟨rfl, c.here rep (.bl _)⟩
  · rename_i hn
    cases (show RD M H _ _ from ry)
    refine .inl ⟨rfl, ?_⟩
    have e : decide (x = V.non) = false := decide_eq_false fun z => by subst z; exact hn (rv_non rx)
    rw [e]
    exact c.here rep (.bl _)
  · exact c.no.elim
def fB (f : EM) : BM := fun ρ h => obnd (f ρ h) fun w h1 => match w with
  | .dat (.bool b) => some (b, h1)
  | _ => none
theorem test_imp {f : EM} : ∀ σ H Q, tT (fB f) σ H Q → tTest (tE f) σ H Q := fun σ H Q => by
  rintro ⟨M, h, ρ, r, rs, c⟩
  obtain ⟨w, h1, e1, c1⟩ := Cont.bind (δ := Unit) c
  refine ⟨M, h, ρ, r, rs, w, h1, e1, fun M1 H1 v x1 r1 v1 => ?_⟩
  have c2 := c1 M1 H1 x1
  split at c2
  · cases v1; exact ⟨_, rfl, c2.fin (.refl _ _) r1 rfl⟩
  · exact c2.no.elim
theorem dt_val {e : Expr} {f : EM} (h : DE X e f) (he : ∀ whole, isTrue e X.env whole = (do let v ← whole; standAt e.pos; holding [v] (truthy v)) := by intro _; rfl) : DT X e (fB f) := (pt_val h he).weak test_imp
theorem dt_of_cmp {a b : Expr} {op : CmpOp} {pos : Pos} {r : R2} {sem : W → W → Hh → Option (W × Hh)} {f g : EM} (ho : OpR X (compareOp op) r) (hs : Sem2 r sem) (ha : DE X a f) (hb : DE X b g) (hm : behindInMarks op b = false) : DT X (.Compare a [op] [b] pos) (fB (f2 sem f g)) :=
  (pt_cmpR ho ha hb hm).weak fun σ H Q q => by
    obtain ⟨M, h, ρ, r, rs, c⟩ := q
    obtain ⟨w, h1, e1, c1⟩ := Cont.bind (δ := Unit) c
    refine op_imp hs σ H _ ⟨M, h, ρ, r, rs, w, h1, e1, fun M1 H1 v x1 r1 v1 => ?_⟩
    have c2 := c1 M1 H1 x1
    split at c2
    · cases v1; exact ⟨_, rfl, c2.fin (.refl _ _) r1 rfl⟩
    · exact c2.no.elim
theorem t_lt {a b : Expr} {pos : Pos} {f g : EM} (ha : DE X a f) (hb : DE X b g) : DT X (.Compare a [.Lt] [b] pos) (fB (f2 lt_W f g)) := dt_of_cmp (op_lt.or op_lt_str) s_lt ha hb (nomark _)
theorem t_gt {a b : Expr} {pos : Pos} {f g : EM} (ha : DE X a f) (hb : DE X b g) : DT X (.Compare a [.Gt] [b] pos) (fB (f2 gt_W f g)) := dt_of_cmp (op_gt.or op_gt_str) s_lt ha hb (nomark _)
theorem t_ne {k : Nat} (hr : Room k X.A) {a b : Expr} {pos : Pos} {f g : EM} (ha : DE X a f) (hb : DE X b g) : DT X (.Compare a [.NotEq] [b] pos) (fB (f2 (eqW true) f g)) := dt_of_cmp (op_ne.or (op_neD hr.units)) s_ne ha hb (nomark _)
theorem t_is {a b : Expr} {pos : Pos} {f g : EM} (ha : DE X a f) (hb : DE X b g) : DT X (.Compare a [.Is] [b] pos) (fB (f2 (isW false) f g)) := dt_of_cmp (op_isN.or op_is_bl) s_is ha hb (nomark _)
def bAnd (f g : BM) : BM := fun ρ h => obnd (f ρ h) fun b h1 => if b = true then g ρ h1 else some (false, h1)
def bOr (f g : BM) : BM := fun ρ h => obnd (f ρ h) fun b h1 => if b = true then some (true, h1) else g ρ h1
def bNot (f : BM) : BM := fun ρ h => obnd (f ρ h) fun b h1 => some (!b, h1)
abbrev DW (X : Cx) (e : Expr) (f : BM) : Prop := PW X e (tT f)
theorem _root_.L2.PW.weak {X : Cx} {e : Expr} {t t' : TT} (h : PW X e t) (i : ∀ σ H Q, t' σ H Q → t σ H Q) : PW X e t' := ⟨fun wh pins s σ H Q I q => h.run wh pins s σ H Q I (i σ H Q q)⟩
theorem dw_or1 {a : Expr} {pos : Pos} {f : BM} (ha : DT X a f) : DW X (.BoolOp .Or [a] pos) f := pw_or1 ha
theorem dw_or {a b : Expr} {rest : List Expr} {pos : Pos} {f g : BM} (ha : DT X a f) (hb : DW X (.BoolOp .Or (b :: rest) pos) g) : DW X (.BoolOp .Or (a :: b :: rest) pos) (bOr f g) := (pw_or ha hb).weak fun σ H Q => by
  rintro ⟨M, h, ρ, r, rs, c⟩
  obtain ⟨w, h1, e1, c1⟩ := Cont.bind (δ := Unit) c
  refine ⟨M, h, ρ, r, rs, w, h1, e1, fun M1 H1 v x1 r1 v1 => ?_⟩
  subst v1
  have c2 := c1 M1 H1 x1
  cases v with
  | true => exact iteT (c2.fin (.refl _ _) r1 rfl)
  | false => exact iteF ⟨M1, h1, ρ, r1, rs.mono x1, c2⟩
theorem dt_not {a : Expr} {pos : Pos} {f : BM} (ha : DT X a f) : DT X (.UnaryOp .Not a pos) (bNot f) := (pt_not ha).weak fun σ H Q => by
  rintro ⟨M, h, ρ, r, rs, c⟩
  obtain ⟨w, h1, e1, c1⟩ := Cont.bind (δ := Unit) c
  refine ⟨M, h, ρ, r, rs, w, h1, e1, fun M1 H1 v x1 r1 v1 => ?_⟩
  subst v1
  exact (c1 M1 H1 x1).fin (.refl _ _) r1 rfl
def fAnd (f g : EM) : EM := fun ρ h => obnd (f ρ h) fun w h1 => match w with
  | .dat (.bool true) => g ρ h1
  | .dat (.bool false) => bok false h1
  | _ => none
def fOr (f g : EM) : EM := fun ρ h => obnd (f ρ h) fun w h1 => match w with
  | .dat (.bool true) => bok true h1
  | .dat (.bool false) => g ρ h1
  | _ => none
def fNot (f : EM) : EM := fun ρ h => obnd (f ρ h) fun w h1 => match w with
  | .dat (.bool b) => bok (!b) h1
  | _ => none
theorem d_one {op} {a : Expr} {pos : Pos} {f : EM} (ha : DE X a f) : DE X (.BoolOp op [a] pos) f := pe_one ha
theorem d_and {a b : Expr} {rest : List Expr} {pos : Pos} {f g : EM} (ha : DE X a f) (hb : DE X (.BoolOp .And (b :: rest) pos) g) : DE X (.BoolOp .And (a :: b :: rest) pos) (fAnd f g) := (pe_and ha hb).weak fun σ H Q => by
  rintro ⟨M, h, ρ, r, rs, c⟩
  obtain ⟨w, h1, e1, c1⟩ := Cont.bind (δ := Unit) c
  refine ⟨M, h, ρ, r, rs, w, h1, e1, fun M1 H1 v x1 r1 v1 => ?_⟩
  have c2 := c1 M1 H1 x1
  split at c2
  · cases v1; exact ⟨true, rfl, iteT ⟨M1, h1, ρ, r1, rs.mono x1, c2⟩⟩
  · cases v1; exact ⟨false, rfl, iteF (c2.here r1 (.bl _))⟩
  · exact c2.no.elim
def fIf (t : BM) (f g : EM) : EM := fun ρ h => obnd (t ρ h) fun b h1 => if b = true then f ρ h1 else g ρ h1
theorem d_if {c a b : Expr} {pos : Pos} {t : BM} {f g : EM} (hc : DT X c t) (ha : DE X a f) (hb : DE X b g) : DE X (.IfExp c a b pos) (fIf t f g) := (pe_ifExp hc ha hb).weak fun σ H Q => by
  rintro ⟨M, h, ρ, r, rs, c⟩
  obtain ⟨w, h1, e1, c1⟩ := Cont.bind (δ := Unit) c
  refine ⟨M, h, ρ, r, rs, w, h1, e1, fun M1 H1 v x1 r1 v1 => ?_⟩
  subst v1
  have c2 := c1 M1 H1 x1
  cases v with
  | true => exact iteT ⟨M1, h1, ρ, r1, rs.mono x1, c2⟩
  | false => exact iteF ⟨M1, h1, ρ, r1, rs.mono x1, c2⟩
end
end DL
set_option maxRecDepth 100000
set_option maxHeartbeats 4000000
namespace DL
open PySem PySem.Spec PyProof.Rows L2
variable [HW]
def dKey : D → Option Key
  | .int i => some (.inl i)
  | .str s => some (.inr s)
  | _ => none
def dKeys : List D → Option (List Key)
  | [] => some []
  | d :: ds => match dKey d, dKeys ds with
    | some k, some ks => some (k :: ks)
    | _, _ => none
def tKey : D → Option (List Key)
  | .tuple ds => dKeys ds
  | _ => none
def getK (es : List (D × D)) (k : Key) : Option D := (es.find? fun e => decide (dKey e.1 = some k)).map (·.2)
def getT (es : List (D × D)) (k : List Key) : Option D := (es.find? fun e => decide (tKey e.1 = some k)).map (·.2)
def isT : List (D × D) → Bool
  | (.none, .none) :: _ => true
  | _ => false
def bareK : D → Bool
  | .tuple ds => pairD ds
  | _ => false
def getD (es : List (D × D)) (k : D) : Option (Option D) := if isT es = true then (if bareK k = true then none else (tKey k).map (getT es.tail)) else (dKey k).map (getK es)
theorem dKey_kP (k : Key) : dKey (kP k) = some k := by cases k <;> rfl
theorem dKeys_kP : ∀ ks : List Key, dKeys (ks.map kP) = some ks
  | [] => rfl
  | k :: ks => by simp only [List.map_cons, dKeys, dKey_kP, dKeys_kP ks]
theorem kP_dKey {d : D} {k : Key} (e : dKey d = some k) : d = kP k := by
  cases d <;> simp only [dKey, Option.some.injEq, reduceCtorEq] at e <;> subst e <;> rfl
theorem kP_dKeys : ∀ {ds : List D} {ks : List Key}, dKeys ds = some ks → ds = ks.map kP
  | [], ks, e => by cases e; rfl
  | d :: ds, ks, e => by
    simp only [dKeys] at e
    split at e
    · rename_i k ks' h1 h2
      cases e
      rw [List.map_cons, ← kP_dKey h1, ← kP_dKeys h2]
    · cases e
section
variable {M : Mm} {H : Hp}
theorem rd_kP {v : V} {k : Key} (r : RD M H v (kP k)) : v = kV k := by
  cases k <;> (cases r; rfl)
theorem rds_kP : ∀ {vs : List V} {ks : List Key}, RDs M H vs (ks.map kP) → vs = ks.map kV
  | _, [], r => by cases r; rfl
  | _, k :: ks, r => by
    cases r with
    | cons a t => rw [List.map_cons, ← rd_kP a, ← rds_kP t]
def RDo (M : Mm) (H : Hp) : Option V → Option D → Prop
  | some v, some d => RD M H v d
  | none, none => True
  | _, _ => False
theorem RDk.val (k : Key) : ∀ {kvs : List (Key × V)} {es : List (D × D)}, RDk M H kvs es → RDo M H (valV kvs k) (getK es k)
  | _, _, .nil => trivial
  | _, _, .cons (k := j) r t => by
    by_cases e : j = k
    · subst e
      rw [valV_pos rfl]
      unfold getK
      simp only [List.find?_cons, dKey_kP, decide_true, Option.map_some]
      exact r
    · rw [valV_neg e]
      have ih := RDk.val k t
      unfold getK at ih ⊢
      simp only [List.find?_cons, dKey_kP, Option.some.injEq, e, decide_false]
      exact ih
theorem RDt.val (k : List Key) : ∀ {kvs : List KA} {es : List (D × D)}, RDt M H kvs es → RDo M H (valA kvs k) (getT es k)
  | _, _, .nil => trivial
  | _, _, .cons (k := j) _ _ r t => by
    have ih := RDt.val k t
    unfold getT valA atA at ih ⊢
    by_cases e : j = k
    · subst e
      simp only [List.find?_cons, tKey, dKeys_kP, decide_true, Option.map_some]
      exact r
    · simp only [List.find?_cons, tKey, dKeys_kP, Option.some.injEq, e, decide_false]
      exact ih
theorem isT_rdk : ∀ {kvs : List (Key × V)} {es : List (D × D)}, RDk M H kvs es → isT es = false
  | _, _, .nil => rfl
  | _, _, .cons (k := k) r t => by cases k <;> rfl
theorem get_ok {x y : V} {es : List (D × D)} {k : D} {o : Option D} (rx : RR M H x (.dict es)) (ry : RD M H y k) (e : getD es k = some o) : ∃ a ov, x = .ref a ∧ DGetX H a y ov ∧ RDo M H ov o := by
  rcases rx with ⟨a, kvs, rfl, ha, r⟩ | ⟨a, kvs, es', rfl, rfl, ha, r⟩
  · unfold getD at e
    rw [isT_rdk r] at e
    simp only [Bool.false_eq_true, if_false, Option.map_eq_some_iff] at e
    obtain ⟨k', e1, e2⟩ := e
    have := kP_dKey e1
    subst this
    rw [rd_kP ry]
    exact ⟨a, _, rfl, .inl (DGet.k ha), e2 ▸ r.val k'⟩
  · unfold getD at e
    simp only [isT, if_true] at e
    split at e
    · cases e
    simp only [Option.map_eq_some_iff, List.tail_cons] at e
    obtain ⟨k', e1, e2⟩ := e
    cases k with
    | tuple ds =>
      have := kP_dKeys (show dKeys ds = some k' from e1)
      subst this
      cases ry with
      | tup _ hb rb =>
        rw [rds_kP rb] at hb
        exact ⟨a, _, rfl, .inr ⟨_, _, _, ha, r.kx, rfl, hb.rd, rfl⟩, e2 ▸ r.val k'⟩
    | _ => cases e1
end
def idxW (x y : W) (h : Hh) : Option (W × Hh) := match x, y with
  | .scr ns, .dat (.int i) => match atI ns i with
    | some n => ok (.int n) h
    | none => none
  | x, .dat k => match deref h x, k with
    | some (.list ds), .int i => match atI ds i with
      | some d => ok d h
      | none => none
    | some (.tuple ds), .int i => match atI ds i with
      | some d => ok d h
      | none => none
    | some (.str z), .int i => if z.length ≤ sizeLine then match atI z.cps.toList i with
        | some c => ok (.str ⟨#[c]⟩) h
        | none => none
      else none
    | some (.dict es), k => match getD es k with
      | some (some d) => ok d h
      | _ => none
    | _, _ => none
  | _, _ => none
section
variable {X : Cx}
def rIxDict : R2 := fun x y H Q => ∃ a v, x = .ref a ∧ DGetX H a y (some v) ∧ Q v H
theorem ix_dict (hu : X.A.units + 1 < cLine) (W : HWX X) : IxR X rIxDict := by
  intro value slice pins s σ H x y v u Q I rx ry q hs
  obtain ⟨a, z, rfl, g, q⟩ := q
  obtain rfl : v = Value.ref a := rx
  have tis := dx_typeIs W I g
  unfold subscriptTail
  refine wpAny_bind ?_
  rw [getitemInPython_of_ne tis.not_modules]
  refine wpAny_bind (wpAny_specialOf tis F.slot_dict_getitem.lookup ?_)
  have gi := dx_getItem (A := X.A) (E := X.xe) hu W I g ry fun w' s3 I3 rw' => (⟨z, H, I3, rw', q⟩ : EP X pins σ Q w' s3)
  have done : wpAny (model X.prog X.w) X.A (subscripted slice false (.ref a) u) (fun r s₃ => wpAny (model X.prog X.w) X.A (letTemporaryGo value (.ref a) r >>= fun _ => pure r) (EP X pins σ Q) X.xe s₃) X.xe s := by
    rw [hs]; exact wpAny_operating (wpAny_mono gi (fun r s₃ k => wpAny_bind (wpAny_letTemporaryGo (wpAny_pure k))) fun _ _ k => k)
  first | exact wpAny_pure (wpAny_bind done) | exact wpAny_bind (wpAny_pure (wpAny_bind done)) | exact wpAny_bind done
theorem scr_atI {ns : List Int} {i : Int} {n : Int} (e : atI ns i = some n) : atI (ns.map V.int) i = some (.int n) := by
  unfold atI at e ⊢
  rw [List.length_map]
  cases q : ixN ns.length i with
  | none => rw [q] at e; cases e
  | some j => rw [q] at e; simp only [Option.bind_some] at e ⊢; rw [List.getElem?_map, e]; rfl
theorem s_idx : Sem2 (fun x y H Q => rIx X.K x y H Q ∨ rIxDict x y H Q) idxW := by
  intro M H h x y wx wy Q rep rx ry c
  unfold idxW at c
  split at c
  · rename_i ns i
    obtain ⟨a, o, rfl, _, ha⟩ := rx
    cases (show RD M H _ _ from ry)
    split at c
    · rename_i n e
      exact .inl (.inl ⟨a, _, i, _, rfl, rfl, .inl (.inr ⟨o, ha⟩), scr_atI e, c.here rep (.int _)⟩)
    · exact c.no.elim
  · split at c
    · rename_i ds i e1 hn
      obtain ⟨a, xs, rfl, ha, qa⟩ := deref_rr rep rx e1
      cases (show RD M H _ _ from ry)
      split at c
      · rename_i d e
        obtain ⟨v, ev, rv⟩ := qa.atI e
        exact .inl (.inl ⟨a, _, i, v, rfl, rfl, .of ha, ev, c.here rep rv⟩)
      · exact c.no.elim
    · rename_i ds i e1 hn
      obtain ⟨a, xs, rfl, _, ha, qa⟩ := rr_tup (deref_rr rep rx e1)
      cases (show RD M H _ _ from ry)
      split at c
      · rename_i d e
        obtain ⟨v, ev, rv⟩ := qa.atI e
        exact .inl (.inr (.inl ⟨a, _, i, v, rfl, rfl, ha.sq, ev, c.here rep rv⟩))
      · exact c.no.elim
    · rename_i z i e1 hn
      obtain rfl := rr_str (deref_rr rep rx e1)
      cases (show RD M H _ _ from ry)
      split at c
      · rename_i hz
        split at c
        · rename_i d e
          exact .inl (.inr (.inr ⟨z, i, d, rfl, rfl, hz, e, c.here rep (.str _)⟩))
        · exact c.no.elim
      · exact c.no.elim
    · rename_i es e1 hn
      split at c
      · rename_i d e
        obtain ⟨a, ov, rfl, g, ro⟩ := get_ok (deref_rr rep rx e1) ry e
        cases ov with
        | none => exact ro.elim
        | some v => exact .inr ⟨a, v, rfl, g, c.here rep ro⟩
      · exact c.no.elim
    · exact c.no.elim
  · exact c.no.elim
theorem d_idx {k : Nat} (hr : Room k X.A) {a b : Expr} {pos : Pos} {f g : EM} (ha : DE X a f) (hb : DE X b g) (hs : PlainIx b) (W : HWX X := by exact ⟨rfl, rfl⟩) : DE X (.Subscript a b pos) (f2 idxW f g) :=
  (pe_ix (ix_seq.or (ix_dict (hu_of hr) W)) ha hb hs).weak (op_imp s_idx)
def cutG {α : Type} (xs : List α) (lo hi : Option Int) : List α := (xs.drop (HT.sIx xs.length 0 lo)).take (HT.sIx xs.length xs.length hi - HT.sIx xs.length 0 lo)
theorem RDs.cut {M : Mm} {H : Hp} {xs : List V} {ds : List D} (r : RDs M H xs ds) (lo hi : Option Int) : RDs M H (cutV xs lo hi) (cutG ds lo hi) := by
  unfold cutV cutG
  rw [r.length]
  exact (r.drop _).take _
def oNone : OM := fun _ h => some (none, h)
def oSome (f : EM) : OM := fun ρ h => obnd (f ρ h) fun w h1 => match w with
  | .dat (.int i) => some (some i, h1)
  | _ => none
abbrev DO (X : Cx) (e : Option Expr) (f : OM) : Prop := PO X e (tO f)
theorem _root_.L2.PO.weak {X : Cx} {e : Option Expr} {t t' : TO} (h : PO X e t) (i : ∀ σ H Q, t' σ H Q → t σ H Q) : PO X e t' := ⟨fun pins s σ H Q I q => h.run pins s σ H Q I (i σ H Q q)⟩
theorem do_none : DO X none oNone := po_none.weak fun σ H Q => by
  rintro ⟨M, h, ρ, r, rs, c⟩
  exact c.fin (.refl _ _) r rfl
theorem do_some {e : Expr} {f : EM} (he : DE X e f) : DO X (some e) (oSome f) := (po_some he).weak fun σ H Q => by
  rintro ⟨M, h, ρ, r, rs, c⟩
  obtain ⟨w, h1, e1, c1⟩ := Cont.bind (δ := Unit) c
  refine ⟨M, h, ρ, r, rs, w, h1, e1, fun M1 H1 v x1 r1 v1 => ?_⟩
  have c2 := c1 M1 H1 x1
  split at c2
  · cases v1; exact ⟨_, rfl, c2.fin (.refl _ _) r1 rfl⟩
  · exact c2.no.elim
def cutW (m : Bool) (x : W) (lo hi : Option Int) (h : Hh) : Option (W × Hh) := match x with
  | .scr ns => mkL m ((cutG ns lo hi).map .int) h
  | x => match deref h x with
    | some (.list ds) => mkL m (cutG ds lo hi) h
    | some (.tuple ds) => ok (.tuple (cutG ds lo hi)) h
    | some (.str z) => if z.length ≤ sizeLine then ok (.str (cutS z lo hi)) h else none
    | _ => none
def fSl (m : Bool) (f : EM) (lo hi : OM) : EM := fun ρ h => obnd (f ρ h) fun w h1 => obnd (lo ρ h1) fun a h2 => obnd (hi ρ h2) fun b h3 => cutW m w a b h3
theorem cut_ints (ns : List Int) (lo hi : Option Int) {M : Mm} {H : Hp} : RDs M H (cutV (ns.map V.int) lo hi) ((cutG ns lo hi).map .int) := by
  have e : cutV (ns.map V.int) lo hi = (cutG ns lo hi).map V.int := by
    unfold cutV cutG
    rw [List.length_map, List.map_take, List.map_drop]
  rw [e]
  generalize cutG ns lo hi = l
  induction l with
  | nil => exact .nil
  | cons a t ih => exact .cons (.int a) ih
theorem cut_whole {α : Type} {xs : List α} {lo hi : Option Int} (e : HT.sIx xs.length 0 lo = 0 ∧ HT.sIx xs.length xs.length hi = xs.length) : cutG xs lo hi = xs := by
  unfold cutG
  rw [e.1, e.2]
  simp
def rSlB (K : PySem.W.Frag) : V → Option Int → Option Int → Hp → VK → Prop := fun x lo hi H Q => ∃ a vs, x = .ref a ∧ SqT K H a vs ∧
  ((HT.sIx vs.length 0 lo = 0 ∧ HT.sIx vs.length vs.length hi = vs.length → Q (.ref a) H) ∧ ∃ bb : Bool, ∀ p o, H p = none → o.dict = none → Q (.ref p) (upd H p (bareO bb o (cutV vs lo hi))))
theorem sl_tupB : SlR X (rSlB X.K) := by
  rintro pins s σ H x v vl vu lo hi sl Q I rx hs pl pu ⟨a, vs, rfl, hx, f1, bb, f2⟩
  by_cases hw : HT.sIx vs.length 0 lo = 0 ∧ HT.sIx vs.length vs.length hi = vs.length
  · exact sl_tupA pins s σ H _ v vl vu lo hi sl Q I rx hs pl pu ⟨a, vs, rfl, hx, f1, fun n => absurd hw n⟩
  · cases rx
    obtain ⟨l, r, ht, hz⟩ := I.tuple hx
    have hn : l.toArray.size = vs.length := by rw [List.size_toArray, r.length]
    refine ⟨"tuple", _, PyProof.Rows.slot_tuple_getitem.lookup, ht.typeIs, HT.getItem_tuple_cut ht hs pl pu (by rwa [hn]) ?_ (by rwa [hn])⟩
    rw [hn]
    exact ⟨.ref s.heap.objs.size, _, I.laid (t' := s.toks) (o := bareO bb _ (cutV vs lo hi)) (fun _ _ q => Heap.get?_push_of_some _ q) (Nat.le_refl _)
      (bare_ok bb (Heap.get?_push_size _ rfl) fun G => ⟨Nat.le_trans (cutV_length vs lo hi) hz, _, (r.drop _).take _, IsTup.new _ _⟩), rfl, f2 _ _ (I.hok.fresh (Nat.le_refl _)) rfl⟩
theorem d_slice (m : Bool) {a : Expr} {lo hi : Option Expr} {p2 pos : Pos} {f : EM} {fl fh : OM} (ha : DE X a f) (hl : DO X lo fl) (hh : DO X hi fh) : DE X (.Subscript a (.Slice lo hi none p2) pos) (fSl m f fl fh) :=
  (pe_slice (sl_list.or (sl_tupB.or sl_str)) ha hl hh).weak fun σ H Q => by
    rintro ⟨M, h, ρ, r, rs, c⟩
    obtain ⟨w, h1, e1, c1⟩ := Cont.bind (δ := Unit) c
    refine ⟨M, h, ρ, r, rs, w, h1, e1, fun M1 H1 v x1 r1 v1 => ⟨M1, h1, ρ, r1, rs.mono x1, ?_⟩⟩
    obtain ⟨w2, h2, e2, c2⟩ := Cont.bind (δ := Unit) (c1 M1 H1 x1)
    refine ⟨w2, h2, e2, fun M2 H2 v2 x2 r2 q2 => ⟨M2, h2, ρ, r2, (rs.mono x1).mono x2, ?_⟩⟩
    subst q2
    obtain ⟨w3, h3, e3, c3⟩ := Cont.bind (δ := Unit) (c2 M2 H2 x2)
    refine ⟨w3, h3, e3, fun M3 H3 v3 x3 r3 q3 => ?_⟩
    subst q3
    have c4 := c3 M3 H3 x3
    have v3' := (v1.mono x2).mono x3
    unfold cutW at c4
    split at c4
    · obtain ⟨b, o, rfl, _, hb⟩ := v3'
      exact .inl ⟨b, _, rfl, .inl (.inr ⟨o, hb⟩), fun p np => mkL_fin r3 np (cut_ints _ _ _) c4⟩
    · split at c4
      · rename_i ds e4
        obtain ⟨b, xs, rfl, hb, qb⟩ := deref_rr r3 v3' e4
        exact .inl ⟨b, xs, rfl, .of hb, fun p np => mkL_fin r3 np (qb.cut _ _) c4⟩
      · rename_i ds e4
        obtain ⟨b, xs, rfl, nb, hb, qb⟩ := rr_tup (deref_rr r3 v3' e4)
        refine .inr (.inl ⟨b, xs, rfl, hb.sq, fun e => ?_, _, fun p o np ho => mkB_fin r3 np (qb.cut _ _) ho c4⟩)
        rw [qb.length] at e
        rw [cut_whole e] at c4
        exact c4.here r3 (.tup nb hb qb)
      · rename_i z e4
        obtain rfl := rr_str (deref_rr r3 v3' e4)
        split at c4
        · rename_i hz
          exact .inr (.inr ⟨z, rfl, hz, c4.here r3 (.str _)⟩)
        · exact c4.no.elim
      · exact c4.no.elim
def dats : List W → Option (List D)
  | [] => some []
  | .dat d :: ws => (dats ws).map (d :: ·)
  | _ :: _ => none
@[simp] theorem dats_nil : dats [] = some [] := rfl
@[simp] theorem dats_cons (d : D) (ws : List W) : dats (.dat d :: ws) = (dats ws).map (d :: ·) := rfl
theorem rvs_dats {M : Mm} {H : Hp} : ∀ {vs : List V} {ws : List W} {ds : List D}, RVs M H vs ws → dats ws = some ds → RDs M H vs ds
  | _, _, _, .nil, e => by cases e; exact .nil
  | _, .dat d :: ws, _, .cons a t, e => by
    simp only [dats_cons, Option.map_eq_some_iff] at e
    obtain ⟨ds', e1, rfl⟩ := e
    exact .cons a (rvs_dats t e1)
  | _, .ref n :: ws, _, .cons a t, e => by cases e
  | _, .scr n :: ws, _, .cons a t, e => by cases e
  | _, .pack n :: ws, _, .cons a t, e => by cases e
  | _, .lock n :: ws, _, .cons a t, e => by cases e
  | _, .ins C fs :: ws, _, .cons a t, e => by cases e
  | _, .exc k C fs :: ws, _, .cons a t, e => by cases e
  | _, .objs os :: ws, _, .cons a t, e => by cases e
def lstW (m : Bool) (ws : List W) (h : Hh) : Option (W × Hh) := match dats ws with
  | some ds => if ds.length ≤ sizeLine then mkL m ds h else none
  | none => none
def tupW (ws : List W) (h : Hh) : Option (W × Hh) := match dats ws with
  | some ds => if ds.length ≤ sizeLine then ok (.tuple ds) h else none
  | none => none
def fA (sem : List W → Hh → Option (W × Hh)) (g : AM) : EM := fun ρ h => obnd (g ρ h) sem
theorem d_lst (m : Bool) {es : List Expr} {pos : Pos} {g : AM} (hg : DA X es g) : DE X (.List es pos) (fA (lstW m) g) := (pe_lst hg).weak fun σ H Q => by
  rintro ⟨M, h, ρ, r, rs, c⟩
  obtain ⟨w, h1, e1, c1⟩ := Cont.bind (δ := Unit) c
  refine ⟨M, h, ρ, r, rs, w, h1, e1, fun M1 H1 v x1 r1 v1 => ?_⟩
  have c2 := c1 M1 H1 x1
  unfold lstW at c2
  split at c2
  · rename_i ds e
    have q := rvs_dats v1 e
    split at c2
    · rename_i hz
      exact ⟨by rw [q.length]; exact hz, fun p np => mkL_fin r1 np q c2⟩
    · exact c2.no.elim
  · exact c2.no.elim
end
end DL
set_option maxRecDepth 100000
set_option maxHeartbeats 4000000
namespace DL
open PySem PySem.Spec PyProof.Rows L2
variable [HW]
def SemA (r : List V → Hp → VK → Prop) (sem : List W → Hh → Option (W × Hh)) : Prop := ∀ (M : Mm) (H : Hp) (h : Hh) (vs : List V) (ws : List W) (Q : VK), Rep M H h → RVs M H vs ws → Cont RV (sem ws h) M H Q → r vs H Q
theorem call_imp {r : List V → Hp → VK → Prop} {sem : List W → Hh → Option (W × Hh)} {g : AM} (hs : SemA r sem) : ∀ σ H Q, tE (fA sem g) σ H Q → tCB r (tA g) σ H Q := fun σ H Q => by
  rintro ⟨M, h, ρ, r, rs, c⟩
  obtain ⟨w, h1, e1, c1⟩ := Cont.bind (δ := Unit) c
  exact ⟨M, h, ρ, r, rs, w, h1, e1, fun M1 H1 v x1 r1 v1 => hs M1 H1 h1 v w Q r1 v1 (c1 M1 H1 x1)⟩
section
variable {X : Cx}
theorem d_callB {x : Str} {p pos : Pos} {e : Expr} {es : List Expr} {id : String} {r : List V → Hp → VK → Prop} {sem : List W → Hh → Option (W × Hh)} {g : AM} (hc : CallR X (.builtin id) r) (hs : SemA r sem) (hm : X.mg x = none) (hv : bootBuiltins x = some (.builtin id)) (ha : DA X (e :: es) g)
    (hg : Gl X x := by rfl) (hn : x ≠ "__name__" := by decide) (hdb : (x == ("__debug__" : Str)) = false := by decide) (he : starEach (e :: es) X.env = (false, eval e X.env) :: starEach es X.env := by rfl) (hpl : (backTo pos (starEach es X.env)).any (·.1) = false := by rfl) :
    DE X (.Call (.Name x p) (e :: es) [] pos) (fA sem g) := (pe_callB hc hg hm hv ha hn hdb he hpl).weak (call_imp hs)
theorem d_callT {x : Str} {p pos : Pos} {e : Expr} {es : List Expr} {T : String} {r : List V → Hp → VK → Prop} {sem : List W → Hh → Option (W × Hh)} {g : AM} (hc : CallR X (.type T) r) (hs : SemA r sem) (hm : X.mg x = none) (hv : bootBuiltins x = some (.type T)) (ha : DA X (e :: es) g)
    (hg : Gl X x := by rfl) (hn : x ≠ "__name__" := by decide) (hdb : (x == ("__debug__" : Str)) = false := by decide) (he : starEach (e :: es) X.env = (false, eval e X.env) :: starEach es X.env := by rfl) (hpl : (backTo pos (starEach es X.env)).any (·.1) = false := by rfl) :
    DE X (.Call (.Name x p) (e :: es) [] pos) (fA sem g) := (pe_callTy hc hg hm hv ha hn hdb he hpl).weak (call_imp hs)
theorem rvs1 {M : Mm} {H : Hp} {vs : List V} {w : W} (r : RVs M H vs [w]) : ∃ v, vs = [v] ∧ RV M H v w := by
  cases r with
  | cons a t => cases t; exact ⟨_, rfl, a⟩
theorem rvs2 {M : Mm} {H : Hp} {vs : List V} {w u : W} (r : RVs M H vs [w, u]) : ∃ v v', vs = [v, v'] ∧ RV M H v w ∧ RV M H v' u := by
  cases r with
  | cons a t => cases t with
    | cons b t => cases t; exact ⟨_, _, rfl, a, b⟩
def lenW (ws : List W) (h : Hh) : Option (W × Hh) := match ws with
  | [.scr ns] => ok (.int ns.length) h
  | [w] => match deref h w with
    | some (.list ds) => ok (.int ds.length) h
    | some (.tuple ds) => ok (.int ds.length) h
    | some (.str z) => if z.length ≤ sizeLine then ok (.int z.length) h else none
    | some (.dict es) => if isT es = true then none else ok (.int es.length) h
    | _ => none
  | _ => none
theorem RDk.length {M : Mm} {H : Hp} : ∀ {kvs : List (Key × V)} {es : List (D × D)}, RDk M H kvs es → kvs.length = es.length
  | _, _, .nil => rfl
  | _, _, .cons _ r => by rw [List.length_cons, List.length_cons, r.length]
theorem s_len : SemA (fun xs H Q => (∃ x n, xs = [x] ∧ LenV X.K x H n ∧ Q (.int n) H) ∨ ∃ d kvs, xs = [.ref d] ∧ H d = some (.dK kvs) ∧ Q (.int (kvs.length : Nat)) H) lenW := by
  intro M H h vs ws Q rep rv c
  unfold lenW at c
  split at c
  · rename_i ns
    obtain ⟨v, rfl, r⟩ := rvs1 rv
    obtain ⟨a, o, rfl, _, ha⟩ := r
    exact .inl ⟨_, ns.length, rfl, .inl ⟨_, .inl (.inr ⟨o, ha⟩), by simp⟩, c.here rep (.int _)⟩
  · obtain ⟨v, rfl, r⟩ := rvs1 rv
    split at c
    · rename_i ds e
      obtain ⟨a, xs, rfl, ha, q⟩ := deref_rr rep r e
      exact .inl ⟨_, ds.length, rfl, .inl ⟨_, .of ha, q.length.symm⟩, c.here rep (.int _)⟩
    · rename_i ds e
      obtain ⟨a, xs, rfl, _, ha, q⟩ := rr_tup (deref_rr rep r e)
      exact .inl ⟨_, ds.length, rfl, .inr ⟨_, ha.sq, q.length.symm⟩, c.here rep (.int _)⟩
    · rename_i z e
      obtain rfl := rr_str (deref_rr rep r e)
      split at c
      · rename_i hz
        exact .inl ⟨_, z.length, rfl, ⟨hz, rfl⟩, c.here rep (.int _)⟩
      · exact c.no.elim
    · rename_i es e
      split at c
      · exact c.no.elim
      · rename_i ht
        rcases deref_rr rep r e with ⟨a, kvs, rfl, ha, q⟩ | ⟨a, kvs, es', rfl, rfl, ha, q⟩
        · rw [← q.length] at c
          exact .inr ⟨a, kvs, rfl, ha, c.here rep (.int _)⟩
        · exact absurd rfl ht
    · exact c.no.elim
  · exact c.no.elim
theorem d_len (hm : X.mg "len" = none) {p pos : Pos} {e : Expr} {g : AM} (ha : DA X [e] g) (hg : Gl X "len" := by rfl) (he : starEach [e] X.env = (false, eval e X.env) :: starEach [] X.env := by rfl) (hpl : (backTo pos (starEach [] X.env)).any (·.1) = false := by rfl) : DE X (.Call (.Name "len" p) [e] [] pos) (fA lenW g) :=
  d_callB (call_len.or call_lenD) s_len hm boot_len ha hg (by decide) (by decide) he hpl
def absW (ws : List W) (h : Hh) : Option (W × Hh) := match ws with
  | [.dat (.int i)] => ok (.int (if i < 0 then -i else i)) h
  | _ => none
theorem s_abs : SemA (fun xs H Q => ∃ i, xs = [.int i] ∧ Q (.int (if i < 0 then -i else i)) H) absW := by
  intro M H h vs ws Q rep rv c
  unfold absW at c
  split at c
  · obtain ⟨v, rfl, r⟩ := rvs1 rv
    cases (show RD M H _ _ from r)
    exact ⟨_, rfl, c.here rep (.int _)⟩
  · exact c.no.elim
def intC (ws : List W) (h : Hh) : Option (W × Hh) := match ws with
  | [.dat (.int i)] => ok (.int i) h
  | [.dat (.bool b)] => ok (.int (if b = true then 1 else 0)) h
  | _ => none
theorem s_intC : SemA (fun xs H Q => (∃ i, xs = [.int i] ∧ Q (.int i) H) ∨ ∃ k, xs = [.bl k] ∧ Q (.int (if k then 1 else 0)) H) intC := by
  intro M H h vs ws Q rep rv c
  unfold intC at c
  split at c
  · obtain ⟨v, rfl, r⟩ := rvs1 rv
    cases (show RD M H _ _ from r)
    exact .inl ⟨_, rfl, c.here rep (.int _)⟩
  · obtain ⟨v, rfl, r⟩ := rvs1 rv
    cases (show RD M H _ _ from r)
    exact .inr ⟨_, rfl, c.here rep (.int _)⟩
  · exact c.no.elim
def maxW (ws : List W) (h : Hh) : Option (W × Hh) := match ws with
  | [.dat (.int i), .dat (.int j)] => ok (.int (if j > i then j else i)) h
  | _ => none
def minW (ws : List W) (h : Hh) : Option (W × Hh) := match ws with
  | [.dat (.int i), .dat (.int j)] => ok (.int (if j < i then j else i)) h
  | _ => none
def bools : List D → Option (List Bool)
  | [] => some []
  | .bool b :: ds => (bools ds).map (b :: ·)
  | _ :: _ => none
def intsD : List D → Option (List Int)
  | [] => some []
  | .int b :: ds => (intsD ds).map (b :: ·)
  | _ :: _ => none
theorem rds_bools {M : Mm} {H : Hp} : ∀ {vs : List V} {ds : List D} {bs : List Bool}, RDs M H vs ds → bools ds = some bs → vs = bs.map V.bl
  | _, _, _, .nil, e => by cases e; rfl
  | _, .bool b :: ds, _, .cons a t, e => by
    simp only [bools, Option.map_eq_some_iff] at e
    obtain ⟨bs', e1, rfl⟩ := e
    cases a
    rw [List.map_cons, ← rds_bools t e1]
  | _, .none :: ds, _, .cons a t, e => by cases e
  | _, .int _ :: ds, _, .cons a t, e => by cases e
  | _, .str _ :: ds, _, .cons a t, e => by cases e
  | _, .list _ :: ds, _, .cons a t, e => by cases e
  | _, .tuple _ :: ds, _, .cons a t, e => by cases e
  | _, .dict _ :: ds, _, .cons a t, e => by cases e
def lW {α : Type} (cv : List D → Option (List α)) (k : List α → D) (ws : List W) (h : Hh) : Option (W × Hh) := match ws with
  | [w] => match deref h w with
    | some (.list ds) => match cv ds with
      | some bs => ok (k bs) h
      | none => none
    | _ => none
  | _ => none
def allW := lW bools fun bs => .bool (bs.all id)
def anyW := lW bools fun bs => .bool (bs.any id)
def sumW := lW intsD fun bs => .int bs.sum
theorem s_lW {α : Type} {cv : List D → Option (List α)} {k : List α → D} {kv : List α → V} {em : α → V} (h1 : ∀ {M : Mm} {H : Hp} {vs : List V} {ds : List D} {bs : List α}, RDs M H vs ds → cv ds = some bs → vs = bs.map em) (h2 : ∀ M H bs, RD M H (kv bs) (k bs)) :
    SemA (fun vs H Q => ∃ (a : Addr) (bs : List α), vs = [V.ref a] ∧ SqL X.K H a (bs.map em) ∧ Q (kv bs) H) (lW cv k) := by
  intro M H h vs ws Q rep rv c
  unfold lW at c
  split at c
  · obtain ⟨v, rfl, r⟩ := rvs1 rv
    split at c
    · rename_i ds e
      obtain ⟨a, xs, rfl, ha, q⟩ := deref_rr rep r e
      split at c
      · rename_i bs e2
        have e3 := h1 q e2
        subst e3
        exact ⟨a, bs, rfl, .of ha, c.here rep (h2 _ _ _)⟩
      · exact c.no.elim
    · exact c.no.elim
  · exact c.no.elim
theorem s_all : SemA (rAll X.K) allW := s_lW rds_bools fun _ _ _ => .bl _
def tupleW (ws : List W) (h : Hh) : Option (W × Hh) := match ws with
  | [w] => match deref h w with
    | some (.list ds) => ok (.tuple ds) h
    | some (.tuple ds) => ok (.tuple ds) h
    | _ => none
  | _ => none
def listW (m : Bool) (ws : List W) (h : Hh) : Option (W × Hh) := match ws with
  | [w] => match deref h w with
    | some (.list ds) => mkL m ds h
    | some (.tuple ds) => mkL m ds h
    | _ => none
  | _ => none
theorem s_list (m : Bool) : SemA (fun xs H Q => ∃ p ys, xs = [.ref p] ∧ (SqL X.K H p ys ∨ SqT X.K H p ys) ∧ ∀ l, H l = none → Q (.ref l) (upd H l (.lst ys))) (listW m) := by
  intro M H h vs ws Q rep rv c
  unfold listW at c
  split at c
  · obtain ⟨v, rfl, r⟩ := rvs1 rv
    split at c
    · rename_i ds e
      obtain ⟨a, xs, rfl, ha, q⟩ := deref_rr rep r e
      exact ⟨a, xs, rfl, .inl (.of ha), fun l nl => mkL_fin rep nl q c⟩
    · rename_i ds e
      obtain ⟨a, xs, rfl, na, ha, q⟩ := rr_tup (deref_rr rep r e)
      exact ⟨a, xs, rfl, .inr ha.sq, fun l nl => mkL_fin rep nl q c⟩
    · exact c.no.elim
  · exact c.no.elim
def putK' (es : List (D × D)) (k : Key) (v : D) : List (D × D) := if (getK es k).isSome = true then es.map (fun e => if dKey e.1 = some k then (e.1, v) else e) else es ++ [(kP k, v)]
def mkK (m : Bool) (es : List (D × D)) (h : Hh) : Option (W × Hh) := if m = true then some (.ref h.length, h ++ [some (.dic es)]) else some (.dat (.dict es), h)
section
variable {X : Cx}
def tyN : D → String
  | .none => "NoneType"
  | .bool _ => "bool"
  | .int _ => "int"
  | .str _ => "str"
  | .list _ => "list"
  | .tuple _ => "tuple"
  | .dict _ => "dict"
def isN (n t : String) : Bool := decide (n = t) || (decide (n = "bool") && decide (t = "int"))
def isT1 (t : String) (d : D) : Bool := isN (tyN d) t
theorem kitN : ∀ n ∈ ["NoneType", "bool", "int", "str", "list", "tuple", "dict"], ∀ t ∈ ["bool", "int", "str", "list", "tuple", "dict"], kitB n t = some (isN n t) := by decide +kernel
theorem rr_ty {K : PySem.W.Frag} {M : Mm} {H : Hp} {v : V} : ∀ {d : D}, (∀ es, d = .dict ((.none, .none) :: es) → False) → RR M H v d → TyX K H v (.type (tyN d))
  | .none, _, r => by rw [rr_non r]; exact .base .non
  | .bool b, _, r => by rw [rr_bl r]; exact .base (.bl b)
  | .int b, _, r => by rw [rr_int r]; exact .base (.int b)
  | .str b, _, r => by rw [rr_str r]; exact .base (.str b)
  | .list b, _, ⟨a, xs, e, h, _⟩ => by rw [e]; exact .base (.lst h)
  | .tuple b, _, r => by
    obtain ⟨a, xs, e, _, h, _⟩ := rr_tup r
    rw [e]
    rcases h with ⟨_, h⟩ | ⟨_, o, _, h⟩
    · exact .base (.tup h)
    · exact .fTuple h
  | .dict b, _, .inl ⟨a, xs, e, h, _⟩ => by rw [e]; exact .base (.dK h)
  | .dict b, n0, .inr ⟨a, xs, es, e0, e, h, _⟩ => by subst e0; exact (n0 _ rfl).elim
theorem kit1 (t : String) (ht : t = "int" ∨ t = "bool" ∨ t = "str" ∨ t = "list" ∨ t = "tuple" ∨ t = "dict") (d : D) : kitB (tyN d) t = some (isT1 t d) := by
  refine kitN (tyN d) ?_ t ?_
  · cases d <;> simp [tyN]
  · rcases ht with rfl | rfl | rfl | rfl | rfl | rfl <;> simp
def isiW (ts : List String) (w : W) (h : Hh) : Option (W × Hh) := match deref h w with
  | some (.dict ((.none, .none) :: _)) => none
  | some d => bok (ts.any fun t => isT1 t d) h
  | none => none
def f1 (sem : W → Hh → Option (W × Hh)) (f : EM) : EM := fun ρ h => obnd (f ρ h) sem
theorem d_isi (hm : X.mg "isinstance" = none) {t : Str} {T : String} (hmt : X.mg t = none) (hv : bootBuiltins t = some (.type T)) (ht : T = "int" ∨ T = "bool" ∨ T = "str" ∨ T = "list" ∨ T = "tuple" ∨ T = "dict") {p pt pos : Pos} {e : Expr} {f : EM} (he : DE X e f)
    (hg : Gl X "isinstance" := by rfl) (hgt : Gl X t := by rfl) (hnt : t ≠ "__name__" := by decide) (hdt : (t == ("__debug__" : Str)) = false := by decide)
    (h1 : starEach [e, .Name t pt] X.env = (false, eval e X.env) :: starEach [.Name t pt] X.env := by rfl) (h2 : starEach [.Name t pt] X.env = (false, eval (.Name t pt) X.env) :: starEach [] X.env := by rfl)
    (hpl : (backTo pos (starEach [.Name t pt] X.env)).any (·.1) = false := by rfl) : DE X (.Call (.Name "isinstance" p) [e, .Name t pt] [] pos) (f1 (isiW [T]) f) :=
  (pe_callB call_isi hg hm boot_isinstance (pa_cons he (pa_cons (pe_bltn (v := .ty T) hgt hmt hv rfl hnt hdt) pa_nil h2) h1) (by decide) (by decide) h1 hpl).weak fun σ H Q => by
    rintro ⟨M, h, ρ, r, rs, c⟩
    obtain ⟨w, h1, e1, c1⟩ := Cont.bind (δ := Unit) c
    refine ⟨M, h, ρ, r, rs, w, h1, e1, fun M1 H1 v x1 r1 v1 => ?_⟩
    have c2 := c1 M1 H1 x1
    unfold isiW at c2
    split at c2
    · exact c2.no.elim
    · rename_i d n0 e
      have q := c2.here r1 (.bl _)
      refine ⟨v, .ty T, _, _, _, rfl, .ty T, (rr_ty n0 (deref_rr r1 v1 e)), kit_ty (kit1 T ht d), ?_⟩
      simpa using q
    · exact c2.no.elim
theorem d_isi2 (hm : X.mg "isinstance" = none) {t t' : Str} {T T' : String} (hmt : X.mg t = none) (hv : bootBuiltins t = some (.type T)) (ht : T = "int" ∨ T = "bool" ∨ T = "str" ∨ T = "list" ∨ T = "tuple" ∨ T = "dict") (hmt' : X.mg t' = none) (hv' : bootBuiltins t' = some (.type T')) (ht' : T' = "int" ∨ T' = "bool" ∨ T' = "str" ∨ T' = "list" ∨ T' = "tuple" ∨ T' = "dict") {p pt pt' ptt pos : Pos} {kt} {e : Expr} {f : EM} (he : DE X e f)
    (hg : Gl X "isinstance" := by rfl) (hgt : Gl X t := by rfl) (hnt : t ≠ "__name__" := by decide) (hdt : (t == ("__debug__" : Str)) = false := by decide) (hgt' : Gl X t' := by rfl) (hnt' : t' ≠ "__name__" := by decide) (hdt' : (t' == ("__debug__" : Str)) = false := by decide)
    (h1 : starEach [e, .Tuple [.Name t pt, .Name t' pt'] kt ptt] X.env = (false, eval e X.env) :: starEach [.Tuple [.Name t pt, .Name t' pt'] kt ptt] X.env := by rfl)
    (h2 : starEach [.Tuple [.Name t pt, .Name t' pt'] kt ptt] X.env = (false, eval (.Tuple [.Name t pt, .Name t' pt'] kt ptt) X.env) :: starEach [] X.env := by rfl)
    (h3 : starEach [.Name t pt, .Name t' pt'] X.env = (false, eval (.Name t pt) X.env) :: starEach [.Name t' pt'] X.env := by rfl) (h4 : starEach [.Name t' pt'] X.env = (false, eval (.Name t' pt') X.env) :: starEach [] X.env := by rfl)
    (hpl : (backTo pos (starEach [.Tuple [.Name t pt, .Name t' pt'] kt ptt] X.env)).any (·.1) = false := by rfl) : DE X (.Call (.Name "isinstance" p) [e, .Tuple [.Name t pt, .Name t' pt'] kt ptt] [] pos) (f1 (isiW [T, T']) f) :=
  (pe_callB call_isiT hg hm boot_isinstance (pa_cons he (pa_cons (pe_tup (pa_cons (pe_bltn (v := .ty T) hgt hmt hv rfl hnt hdt) (pa_cons (pe_bltn (v := .ty T') hgt' hmt' hv' rfl hnt' hdt') pa_nil h4) h3)) pa_nil h2) h1) (by decide) (by decide) h1 hpl).weak fun σ H Q => by
    rintro ⟨M, h, ρ, r, rs, c⟩
    obtain ⟨w, h1, e1, c1⟩ := Cont.bind (δ := Unit) c
    refine ⟨M, h, ρ, r, rs, w, h1, e1, fun M1 H1 v x1 r1 v1 => ⟨by show 2 ≤ sizeLine; decide, fun tp ntp => ?_⟩⟩
    have c2 := c1 M1 H1 x1
    unfold isiW at c2
    split at c2
    · exact c2.no.elim
    · rename_i d n0 e
      have r2 := r1.upd_new (o := .tup [.ty T, .ty T']) ntp
      have q := c2.fin (v := .bl _) (ext_new ntp) r2 (.bl _)
      refine ⟨v, tp, [.ty T, .ty T'], _, [.type T, .type T'], _, rfl, upd_same, .cons (.ty T) (.cons (.ty T') .nil), (rr_ty n0 (deref_rr r2 (v1.mono (ext_new ntp)) e)), ?_, q⟩
      refine kitAny_cons (kit_ty (kit1 T ht d)) (fun hb => kitAny_cons (r := isT1 T' d) (kit_ty (kit1 T' ht' d)) (fun hb' => by rw [hb']; rfl) (fun hb' => hb') |>.trans ?_) (fun hb => ?_)
      · simp [hb]
      · simp [hb]
    · exact c2.no.elim
end
end
end DL
set_option maxRecDepth 100000
set_option maxHeartbeats 4000000
namespace DL
open PySem PySem.Spec PyProof.Rows L2
variable [HW]
section
variable {X : Cx}
noncomputable def sortD (ds : List D) : List D := ds.mergeSort (PySem.W.dataLe false fun d => d)
def sortable (ds : List D) : Bool := (ds.all fun d => ds.all fun e => PySem.W.alike d e) && ((ds.all fun d => match d with | .tuple (_ :: _) => true | _ => false) || (ds.all fun d => match d with | .none => false | .tuple _ => false | _ => true)) && ds.all shp
noncomputable def sortW (m : Bool) (ws : List W) (h : Hh) : Option (W × Hh) := match ws with
  | [w] => match deref h w with
    | some (.list ds) => if sortable ds = true then mkL m (sortD ds) h else none
    | some (.tuple ds) => if sortable ds = true then mkL m (sortD ds) h else none
    | _ => none
  | _ => none
def isL (w : W) (h : Hh) : Bool := match deref h w with
  | some (.list _) => true
  | _ => false
def fM (chk : W → Hh → Bool) (sem : W → List W → Hh → Option (W × Hh)) (f : EM) (g : AM) : EM := fun ρ h => obnd (f ρ h) fun w h1 => if chk w h1 = true then obnd (g ρ h1) fun ws h2 => sem w ws h2 else none
def lstAt (h : Hh) (n : Nat) : Option (List D) := match h[n]? with
  | some (some (.lst ds)) => some ds
  | _ => none
theorem lstAt_ok {M : Mm} {H : Hp} {h : Hh} {n : Nat} {ds : List D} {a : Addr} (rep : Rep M H h) (e : lstAt h n = some ds) (ea : M.m[n]? = some (some a)) : ∃ xs, H a = some (.lst xs) ∧ RDs M H xs ds := by
  obtain ⟨o, ho, ro⟩ := rep.at_ n a ea
  unfold lstAt at e
  rw [ho] at e
  cases o with
  | lst ds' => cases e; exact ro
  | dic _ => cases e
  | dit _ => cases e
  | tab _ _ => cases e
  | ins _ _ => cases e
  | obj _ _ => cases e
  | los _ => cases e
def setL (h : Hh) (n : Nat) (ds : List D) (r : D) : Option (W × Hh) := some (.dat r, h.set n (some (.lst ds)))
def appendW (w : W) (ws : List W) (h : Hh) : Option (W × Hh) := match w, ws with
  | .ref n, [.dat d] => match lstAt h n with
    | some ds => if ds.length < sizeLine then setL h n (ds ++ [d]) .none else none
    | none => none
  | _, _ => none
def insertW (w : W) (ws : List W) (h : Hh) : Option (W × Hh) := match w, ws with
  | .ref n, [.dat (.int i), .dat d] => match lstAt h n with
    | some ds => if ds.length < sizeLine ∧ 0 ≤ i ∧ i < 1000000 then setL h n (ds.take i.toNat ++ [d] ++ ds.drop i.toNat) .none else none
    | none => none
  | _, _ => none
end
end DL
set_option maxRecDepth 100000
set_option maxHeartbeats 4000000
namespace DL
open PySem PySem.Spec PyProof.Rows L2
variable [HW]
abbrev TM := W → Env → Hh → Option Env
abbrev TMs := List D → Env → Hh → Option Env
def tGd (ts : List Nat) (g : TM) : TG := fun v σ H Q => ∃ M h ρ w ρ', Rep M H h ∧ RS M H ρ σ ∧ RV M H v w ∧ g w ρ h = some ρ' ∧ ∀ σ' : L2.St, RS M H ρ' σ' → σ'.length = σ.length → (∀ j, j ∉ ts → σ'[j]? = σ[j]?) → Q σ' H
def tGds (ts : List Nat) (g : TMs) : TGs := fun vs σ H Q => ∃ M h ρ ds ρ', Rep M H h ∧ RS M H ρ σ ∧ RDs M H vs ds ∧ g ds ρ h = some ρ' ∧ ∀ σ' : L2.St, RS M H ρ' σ' → σ'.length = σ.length → (∀ j, j ∉ ts → σ'[j]? = σ[j]?) → Q σ' H
abbrev DG (X : Cx) (tg : Expr) (ts : List Nat) (g : TM) : Prop := PG X tg (tGd ts g)
abbrev DGs (X : Cx) (tgs : List Expr) (ts : List Nat) (g : TMs) : Prop := PGs X tgs (tGds ts g)
theorem _root_.L2.PGs.weak {X : Cx} {e : List Expr} {t t' : TGs} (h : PGs X e t) (i : ∀ v σ H Q, t' v σ H Q → t v σ H Q) : PGs X e t' := ⟨fun pins s σ H v u Q I r q => h.run pins s σ H v u Q I r (i v σ H Q q)⟩
def gN (i : Nat) : TM := fun w ρ _ => some (ρ.set i (some w))
def gE : TMs := fun ds ρ _ => match ds with
  | [] => some ρ
  | _ => none
def gC (g : TM) (k : TMs) : TMs := fun ds ρ h => match ds with
  | d :: ds => match g (.dat d) ρ h with
    | some ρ' => k ds ρ' h
    | none => none
  | [] => none
def gT (n : Nat) (k : TMs) : TM := fun w ρ h => match deref h w with
  | some (.tuple ds) => if ds.length = n then k ds ρ h else none
  | some (.list ds) => if ds.length = n then k ds ρ h else none
  | _ => none
section
variable {X : Cx}
theorem dg_name (i : Nat) {x : Str} {pos : Pos} (h : PG X (.Name x pos) (gName i)) : DG X (.Name x pos) [i] (gN i) := h.weak fun v σ H Q => by
  rintro ⟨M, h, ρ, w, ρ', r, rs, rv, e, q⟩
  cases e
  exact q _ (rs.set rv) (by simp) fun j hj => List.getElem?_set_ne (fun z => hj (by simp [z]))
theorem dgs_nil : DGs X [] [] gE := pgs_nil.weak fun v σ H Q => by
  rintro ⟨M, h, ρ, ds, ρ', r, rs, rv, e, q⟩
  unfold gE at e
  split at e
  · cases e; cases rv; exact ⟨rfl, q σ rs rfl fun _ _ => rfl⟩
  · cases e
theorem dgs_cons {tg : Expr} {tgs : List Expr} {ts ts' : List Nat} {g : TM} {k : TMs} (h1 : DG X tg ts g) (h2 : DGs X tgs ts' k) (hs : (assignEach (tg :: tgs) X.env).map (·.2) = assign tg X.env :: (assignEach tgs X.env).map (·.2) := by rfl) : DGs X (tg :: tgs) (ts ++ ts') (gC g k) :=
  (pgs_cons h1 h2 hs).weak fun v σ H Q => by
    rintro ⟨M, h, ρ, ds, ρ', r, rs, rv, e, q⟩
    unfold gC at e
    split at e
    · rename_i d ds'
      split at e
      · rename_i ρ1 e1
        cases rv with
        | cons a t =>
          refine ⟨_, _, rfl, M, h, ρ, .dat d, ρ1, r, rs, a, e1, fun σ1 rs1 l1 o1 => ⟨M, h, ρ1, ds', ρ', r, rs1, t, e, fun σ2 rs2 l2 o2 => q σ2 rs2 (l2.trans l1) fun j hj => ?_⟩⟩
          rw [o2 j (fun z => hj (List.mem_append_right _ z)), o1 j (fun z => hj (List.mem_append_left _ z))]
      · cases e
    · cases e
theorem _root_.L2.PG.or {tg : Expr} {t t' : TG} (h : PG X tg t) (h' : PG X tg t') : PG X tg (fun v σ H Q => t v σ H Q ∨ t' v σ H Q) := ⟨fun pins s σ H v u Q I r q => q.elim (h.run pins s σ H v u Q I r) (h'.run pins s σ H v u Q I r)⟩
theorem dg_tup {tgs : List Expr} {k : Nat} {pos : Pos} {ts : List Nat} {g : TMs} {n : Nat} (hc : X.calm = true) (h : DGs X tgs ts g) (hn : (assignEach tgs X.env).length = n := by rfl) (hst : (assignEach tgs X.env).findIdx? (·.1) = none := by rfl) : DG X (.Tuple tgs k pos) ts (gT n g) :=
  ((pg_tup hc h hn hst).or (pg_unl hc h hn hst)).weak fun v σ H Q => by
    rintro ⟨M, h, ρ, w, ρ', r, rs, rv, e, q⟩
    unfold gT at e
    split at e
    · rename_i ds ed
      obtain ⟨a, xs, rfl, _, ha, qa⟩ := rr_tup (deref_rr r rv ed)
      split at e
      · rename_i hz
        exact .inl ⟨a, xs, rfl, ha.sq, by rw [qa.length]; exact hz, M, h, ρ, ds, ρ', r, rs, qa, e, q⟩
      · cases e
    · rename_i ds ed
      obtain ⟨a, xs, rfl, ha, qa⟩ := deref_rr r rv ed
      split at e
      · rename_i hz
        exact .inr ⟨a, xs, rfl, .of ha, by rw [qa.length]; exact hz, M, h, ρ, ds, ρ', r, rs, qa, e, q⟩
      · cases e
    · cases e
end
theorem Rep.grow {M : Mm} {H H' : Hp} {h : Hh} (r : Rep M H h) (s : Same H H') : Rep M H' h ∧ ExtE M M H H' := by
  have x : ExtE M M H H' := ⟨rfl, fun a o e => ⟨o, s a o e⟩, fun a o e _ => s a o e, fun _ m => .inl m, Nat.le_refl _, fun _ _ => rfl⟩
  refine ⟨⟨fun a m => ?_, r.len, r.inj, fun i a e => ?_, r.dead⟩, x⟩
  · obtain ⟨h1, o, e, ht⟩ := r.us a m
    exact ⟨h1, o, s a o e, ht⟩
  · obtain ⟨u, hu, ro⟩ := r.at_ i a e
    obtain ⟨z, hz⟩ := ro.some_
    exact ⟨u, hu, ro.move x.ext (by rw [hz]; exact s a z hz)⟩
theorem new_out {M : Mm} {H : Hp} (tr : ∀ a, M.Has a → ∃ o, H a = some o ∧ tpO o = false) {T : Addr} (n : H T = none) : ¬ M.Has T := fun z => by
  obtain ⟨o, e, _⟩ := tr T z
  rw [n] at e; cases e
theorem grow_ext {M : Mm} {H H' : Hp} (s : Same H H') : Ext M M H H' := ⟨fun _ m => .inl m, fun a o e => ⟨o, s a o e⟩, fun a o e _ => s a o e, fun _ m => .inl m, Nat.le_refl _, fun _ _ => .inl rfl⟩
def ItD (M : Mm) (H : Hp) (J : It) (ds : List D) : Prop := ∀ M1 H1, Ext M M1 H H1 → (∀ a, M1.Has a → ∃ o, H1 a = some o ∧ tpO o = false) → (∀ (i : Nat) (d : D), ds[i]? = some d → J.go i H1 ∧ ∀ x H2, J.yld i H1 x H2 → Same H1 H2 ∧ RD M1 H2 x d) ∧ J.stop ds.length H1
abbrev IM := Env → Hh → Option (List D × Hh)
def tI (g : IM) : TI := fun σ H R => ∃ M h ρ ds h', Rep M H h ∧ RS M H ρ σ ∧ g ρ h = some (ds, h') ∧ ∀ M' H' J, ExtE M M' H H' → Rep M' H' h' → ItD M' H' J ds → R J H'
abbrev DI (X : Cx) (tg it : Expr) (g : IM) : Prop := PI X tg it (tI g)
theorem _root_.L2.PI.or {X : Cx} {tg e : Expr} {t t' : TI} (h : PI X tg e t) (h' : PI X tg e t') : PI X tg e (fun σ H R => t σ H R ∨ t' σ H R) := ⟨fun pins s σ H R I q => q.elim (h.run pins s σ H R I) (h'.run pins s σ H R I)⟩
theorem same_refl' {H : Hp} : Same H H := fun _ _ e => e
theorem same_new {H : Hp} {p : Addr} {o : HO} (n : H p = none) : Same H (upd H p o) := fun b x e => by rw [upd_ne (ne_of_none e n)]; exact e
def seqI (f : EM) : IM := fun ρ h => obnd (f ρ h) fun w h1 => match w with
  | .dat (.list ds) => some (ds, h1)
  | .dat (.tuple ds) => some (ds, h1)
  | _ => none
section
variable {X : Cx} {tg : Expr}
def rngD (lo : Int) (n : Nat) : List D := (List.range n).map fun (i : Nat) => .int (lo + (i : Int))
theorem rngD_get {lo : Int} {n i : Nat} {d : D} (e : (rngD lo n)[i]? = some d) : i < n ∧ d = .int (lo + i) := by
  unfold rngD at e
  rw [List.getElem?_map] at e
  cases q : (List.range n)[i]? with
  | none => rw [q] at e; cases e
  | some j =>
    rw [q] at e
    obtain ⟨h1, h2⟩ := List.getElem?_eq_some_iff.mp q
    rw [List.length_range] at h1
    rw [List.getElem_range] at h2
    subst h2
    exact ⟨h1, by simpa using e.symm⟩
theorem itd_rng {M : Mm} {H : Hp} {lo : Int} {n : Nat} : ItD M H (Itr lo n) (rngD lo n) := fun M1 H1 x tr => by
  refine ⟨fun i d e => ?_, ?_⟩
  · obtain ⟨h1, rfl⟩ := rngD_get e
    exact ⟨h1, fun y H2 hy => by obtain ⟨e1, e2⟩ := hy; subst e1 e2; exact ⟨same_refl', .int _⟩⟩
  · show n ≤ _
    simp [rngD]
def rng1I (g : AM) : IM := fun ρ h => obnd (g ρ h) fun ws h1 => match ws with
  | [.dat (.int j)] => if -1000000000 ≤ j ∧ j ≤ 1000000000 then some (rngD 0 j.toNat, h1) else none
  | _ => none
def rng2I (g : AM) : IM := fun ρ h => obnd (g ρ h) fun ws h1 => match ws with
  | [.dat (.int i), .dat (.int j)] => if -1000000000 ≤ i ∧ i ≤ 1000000000 ∧ -1000000000 ≤ j ∧ j ≤ 1000000000 then some (rngD i (j - i).toNat, h1) else none
  | _ => none
theorem di_rng1 (hm : X.mg "range" = none) {a : Expr} {p pos : Pos} {g : AM} (ha : DA X [a] g) (hg : Gl X "range" := by rfl) (hs : starEach [a] X.env = [(false, eval a X.env)] := by rfl) : DI X tg (.Call (.Name "range" p) [a] [] pos) (rng1I g) := (pi_range1 hg hm ha hs).weak fun σ H R => by
  rintro ⟨M, h, ρ, ds, h', r, rs, e, q⟩
  unfold rng1I at e
  cases ef : g ρ h with
  | none => rw [ef] at e; cases e
  | some p =>
    obtain ⟨ws, h1⟩ := p
    rw [ef] at e
    simp only [obnd_some] at e
    split at e
    · split at e
      · rename_i hz
        cases e
        refine ⟨M, h, ρ, r, rs, _, _, ef, fun M1 H1 v x1 r1 v1 => ?_⟩
        obtain ⟨v, rfl, rv⟩ := rvs1 v1
        cases (show RD M1 H1 v _ from rv)
        exact ⟨_, rfl, by omega, by omega, q M1 H1 _ x1 r1 itd_rng⟩
      · cases e
    · cases e
def enumD : Nat → List D → List D
  | _, [] => []
  | i, d :: ds => .tuple [.int (i : Int), d] :: enumD (i + 1) ds
theorem enumD_get : ∀ {ds : List D} {k i : Nat} {d : D}, (enumD k ds)[i]? = some d → ∃ e, ds[i]? = some e ∧ d = .tuple [.int ((k + i : Nat) : Int), e]
  | [], _, _, _, e => by simp [enumD] at e
  | e :: ds, k, 0, d, h => by simp [enumD] at h; exact ⟨e, rfl, by rw [← h]; rfl⟩
  | e :: ds, k, i + 1, d, h => by
    obtain ⟨e', h1, h2⟩ := enumD_get (ds := ds) (k := k + 1) (i := i) (d := d) (by simpa [enumD] using h)
    exact ⟨e', by simpa using h1, by rw [h2, show k + 1 + i = k + (i + 1) by omega]⟩
theorem enumD_len : ∀ (k : Nat) (ds : List D), (enumD k ds).length = ds.length
  | _, [] => rfl
  | k, d :: ds => by simp [enumD, enumD_len (k + 1) ds]
theorem itd_enum {K : PySem.W.Frag} {M : Mm} {H : Hp} {a : Addr} {xs : List V} {ds : List D} (n : ¬ M.Has a) (ha : H a = some (.lst xs)) (q : RDs M H xs ds) : ItD M H (Ite K a) (enumD 0 ds) := fun M1 H1 x tr => by
  have ha1 := x.st n ha
  have q1 := q.mono x
  refine ⟨fun i d e => ?_, ⟨xs, .of ha1, by rw [q.length, enumD_len]; exact Nat.le_refl _⟩⟩
  obtain ⟨d', e', rfl⟩ := enumD_get e
  obtain ⟨v, ev, rv⟩ := q1.get e'
  refine ⟨⟨xs, v, .of ha1, ev⟩, fun y H2 hy => ?_⟩
  obtain ⟨T, z, rfl, nT, rfl, hz⟩ := hy
  have := hz xs (.of ha1)
  rw [ev] at this; cases this
  refine ⟨same_new nT, .tup (fun z => new_out tr nT z) (.inl ⟨rfl, upd_same⟩) (.cons ?_ (.cons (rv.mono (grow_ext (same_new nT))) .nil))⟩
  rw [Nat.zero_add]; exact .int _
def zipD : List D → List D → List D
  | x :: xs, y :: ys => .tuple [x, y] :: zipD xs ys
  | _, _ => []
theorem zipD_get : ∀ {xs ys : List D} {i : Nat} {d : D}, (zipD xs ys)[i]? = some d → ∃ x y, xs[i]? = some x ∧ ys[i]? = some y ∧ d = .tuple [x, y]
  | [], _, _, _, e => by simp [zipD] at e
  | _ :: _, [], _, _, e => by simp [zipD] at e
  | x :: xs, y :: ys, 0, d, e => by simp [zipD] at e; exact ⟨x, y, rfl, rfl, e.symm⟩
  | x :: xs, y :: ys, i + 1, d, e => by
    obtain ⟨a, b, h1, h2, h3⟩ := zipD_get (xs := xs) (ys := ys) (i := i) (d := d) (by simpa [zipD] using e)
    exact ⟨a, b, by simpa using h1, by simpa using h2, h3⟩
def notCall : D → Bool
  | .tuple l => !callD l
  | _ => true
def zipOk (xs ys : List D) : Bool := (zipD xs ys).all notCall
theorem zipOk_get {xs ys : List D} {i : Nat} {l : List D} (ok : zipOk xs ys = true) (e : (zipD xs ys)[i]? = some (.tuple l)) : callD l = false := by
  have := List.all_eq_true.mp ok _ (List.mem_of_getElem? e)
  simpa [notCall] using this
theorem zipD_len : ∀ (xs ys : List D), (zipD xs ys).length = min xs.length ys.length
  | [], _ => by simp [zipD]
  | _ :: _, [] => by simp [zipD]
  | x :: xs, y :: ys => by simp only [zipD, List.length_cons, zipD_len xs ys]; omega
theorem itd_zip {K : PySem.W.Frag} {M : Mm} {H : Hp} {a b : Addr} {xs ys : List V} {ds es : List D} (n : ¬ M.Has a) (ha : H a = some (.lst xs)) (q : RDs M H xs ds) (n' : ¬ M.Has b) (hb : H b = some (.lst ys)) (q' : RDs M H ys es) (ok : zipOk ds es = true) : ItD M H (Itz K a b) (zipD ds es) := fun M1 H1 x tr => by
  have ha1 := x.st n ha
  have hb1 := x.st n' hb
  refine ⟨fun i d e => ?_, ⟨xs, ys, .of ha1, .of hb1, by rw [q.length, q'.length, zipD_len]; omega⟩⟩
  obtain ⟨d1, d2, e1, e2, rfl⟩ := zipD_get e
  obtain ⟨v, ev, rv⟩ := (q.mono x).get e1
  obtain ⟨v', ev', rv'⟩ := (q'.mono x).get e2
  refine ⟨⟨xs, ys, v, v', .of ha1, .of hb1, ev, ev'⟩, fun y H2 hy => ?_⟩
  obtain ⟨T, z, z', rfl, nT, rfl, hz, hz'⟩ := hy
  have t1 := hz xs (.of ha1)
  rw [ev] at t1; cases t1
  have t2 := hz' ys (.of hb1)
  rw [ev'] at t2; cases t2
  exact ⟨same_new nT, .tup (fun z => new_out tr nT z) (.inl ⟨zipOk_get ok e, upd_same⟩) (.cons (rv.mono (grow_ext (same_new nT))) (.cons (rv'.mono (grow_ext (same_new nT))) .nil))⟩
theorem itd_zipT {K : PySem.W.Frag} {M : Mm} {H : Hp} {a b : Addr} {xs ys : List V} {ds es : List D} (n : ¬ M.Has a) (ha : TupAt H a xs ds) (q : RDs M H xs ds) (n' : ¬ M.Has b) (hb : TupAt H b ys es) (q' : RDs M H ys es) (ok : zipOk ds es = true) : ItD M H (RZ.ItzT K a b) (zipD ds es) := fun M1 H1 x tr => by
  have ha1 := (ha.to fun _ z => x.st n z).sq (K := K)
  have hb1 := (hb.to fun _ z => x.st n' z).sq (K := K)
  refine ⟨fun i d e => ?_, ⟨xs, ys, ha1, hb1, by rw [q.length, q'.length, zipD_len]; omega⟩⟩
  obtain ⟨d1, d2, e1, e2, rfl⟩ := zipD_get e
  obtain ⟨v, ev, rv⟩ := (q.mono x).get e1
  obtain ⟨v', ev', rv'⟩ := (q'.mono x).get e2
  refine ⟨⟨xs, ys, v, v', ha1, hb1, ev, ev'⟩, fun y H2 hy => ?_⟩
  obtain ⟨T, z, z', rfl, nT, rfl, hz, hz'⟩ := hy
  have t1 := hz xs ha1
  rw [ev] at t1; cases t1
  have t2 := hz' ys hb1
  rw [ev'] at t2; cases t2
  exact ⟨same_new nT, .tup (fun z => new_out tr nT z) (.inl ⟨zipOk_get ok e, upd_same⟩) (.cons (rv.mono (grow_ext (same_new nT))) (.cons (rv'.mono (grow_ext (same_new nT))) .nil))⟩
def zipI (g : AM) : IM := fun ρ h => obnd (g ρ h) fun ws h1 => match ws with
  | [.dat (.list ds), .dat (.list es)] => if zipOk ds es = true then some (zipD ds es, h1) else none
  | [.dat (.tuple ds), .dat (.tuple es)] => if zipOk ds es = true then some (zipD ds es, h1) else none
  | _ => none
theorem di_zip (hm : X.mg "zip" = none) {e e2 : Expr} {elts : List Expr} {kk : Nat} {p pos tpos : Pos} {g : AM} (ha : DA X [e, e2] g) (hg : Gl X "zip" := by rfl) (hs : starEach [e, e2] X.env = (false, eval e X.env) :: starEach [e2] X.env := by rfl) (hpl : (backTo pos (starEach [e2] X.env)).any (·.1) = false := by rfl) :
    DI X (.Tuple elts kk tpos) (.Call (.Name "zip" p) [e, e2] [] pos) (zipI g) := (RZ.pi_zipA hg hm ha hs hpl).weak fun σ H R => by
  rintro ⟨M, h, ρ, ds, h', r, rs, e, q⟩
  unfold zipI at e
  cases ef : g ρ h with
  | none => rw [ef] at e; cases e
  | some p =>
    obtain ⟨ws, h1⟩ := p
    rw [ef] at e
    simp only [obnd_some] at e
    split at e
    · split at e
      rotate_left
      · cases e
      rename_i ok
      cases e
      refine ⟨M, h, ρ, r, rs, _, _, ef, fun M1 H1 v x1 r1 v1 => ?_⟩
      obtain ⟨v, v', rfl, rv, rv'⟩ := rvs2 v1
      cases (show RD M1 H1 v _ from rv) with
      | lst n ha qa =>
        cases (show RD M1 H1 v' _ from rv') with
        | lst n' hb qb => exact ⟨_, _, _, _, rfl, .inl ⟨.of ha, .of hb, q M1 H1 _ x1 r1 (itd_zip n ha qa n' hb qb ok)⟩⟩
    · split at e
      rotate_left
      · cases e
      rename_i ok
      cases e
      refine ⟨M, h, ρ, r, rs, _, _, ef, fun M1 H1 v x1 r1 v1 => ?_⟩
      obtain ⟨v, v', rfl, rv, rv'⟩ := rvs2 v1
      cases (show RD M1 H1 v _ from rv) with
      | tup n ha qa =>
        cases (show RD M1 H1 v' _ from rv') with
        | tup n' hb qb => exact ⟨_, _, _, _, rfl, .inr ⟨ha.sq, hb.sq, q M1 H1 _ x1 r1 (itd_zipT n ha qa n' hb qb ok)⟩⟩
    · cases e
def revI (f : EM) : IM := fun ρ h => obnd (f ρ h) fun w h1 => match w with
  | .dat (.list ds) => some (ds.reverse, h1)
  | .dat (.tuple ds) => some (ds.reverse, h1)
  | _ => none
def signs (z : Str) : List D := z.cps.toList.map fun c => .str ⟨#[c]⟩
def strI (f : EM) : IM := fun ρ h => obnd (f ρ h) fun w h1 => match w with
  | .dat (.str z) => some (signs z, h1)
  | _ => none
end
end DL
set_option maxRecDepth 100000
set_option maxHeartbeats 4000000
namespace DL
open PySem PySem.Spec PyProof.Rows L2
variable [HW]
def wipeE (ρ : Env) : List Nat → Env
  | [] => ρ
  | v :: vs => (wipeE ρ vs).set v none
theorem RS.none_at {M : Mm} {H : Hp} {ρ : Env} {σ : L2.St} (r : RS M H ρ σ) (i : Nat) : RS M H (ρ.set i none) (σ.set i none) := by
  refine ⟨by simp [r.1], fun j u e => ?_⟩
  by_cases hj : i = j
  · subst hj
    by_cases hi : i < ρ.length
    · rw [List.getElem?_set_self hi] at e; cases e
    · rw [List.getElem?_eq_none (by simpa using hi)] at e; cases e
  · rw [List.getElem?_set_ne hj] at e ⊢
    exact r.2 j u e
theorem RS.wipe {M : Mm} {H : Hp} {ρ : Env} {σ : L2.St} (r : RS M H ρ σ) : ∀ vs : List Nat, RS M H (wipeE ρ vs) (L2.wipe σ vs)
  | [] => r
  | v :: vs => (RS.wipe r vs).none_at v
theorem wipe_get (σ : L2.St) : ∀ (vs : List Nat) (j : Nat), (L2.wipe σ vs)[j]? = if j ∈ vs ∧ j < σ.length then some none else σ[j]?
  | [], j => by simp [L2.wipe]
  | v :: vs, j => by
    unfold L2.wipe
    by_cases hj : v = j
    · subst hj
      by_cases hl : v < σ.length
      · rw [List.getElem?_set_self (by rw [L2.wipe_length]; exact hl), if_pos ⟨List.mem_cons_self, hl⟩]
      · rw [List.getElem?_eq_none (by rw [List.length_set, L2.wipe_length]; omega), if_neg (fun z => hl z.2), List.getElem?_eq_none (by omega)]
    · rw [List.getElem?_set_ne hj, wipe_get σ vs j]
      have : j ∈ v :: vs ↔ j ∈ vs := by simp [Ne.symm hj]
      simp only [this]
theorem wipe_of {σ σ2 : L2.St} {ts vs : List Nat} (hl : σ2.length = σ.length) (ho : ∀ j, j ∉ ts → σ2[j]? = (L2.wipe σ vs)[j]?) (hs : ∀ j ∈ ts, j ∈ vs) : L2.wipe σ2 vs = L2.wipe σ vs := by
  refine List.ext_getElem? fun j => ?_
  rw [wipe_get, wipe_get, hl]
  by_cases h : j ∈ vs ∧ j < σ.length
  · rw [if_pos h, if_pos h]
  · rw [if_neg h, if_neg h]
    by_cases hj : j ∈ vs
    · have : σ.length ≤ j := Nat.le_of_not_lt fun z => h ⟨hj, z⟩
      rw [List.getElem?_eq_none (by omega), List.getElem?_eq_none this]
    · rw [ho j fun z => hj (hs j z), wipe_get, if_neg h]
def lcL (k : TM) (t : BM) (f : EM) (ρ : Env) : List D → Hh → Option (List D × Hh)
  | [], h => some ([], h)
  | d :: ds, h => match k (.dat d) ρ h with
    | some ρ1 => obnd (t ρ1 h) fun b h2 => if b = true then obnd (f ρ1 h2) fun w h3 => match w with
        | .dat d' => obnd (lcL k t f ρ ds h3) fun r h4 => some (d' :: r, h4)
        | _ => none
      else lcL k t f ρ ds h2
    | none => none
def fLc (m : Bool) (gi : IM) (k : TM) (t : BM) (f : EM) (vs : List Nat) : EM := fun ρ h => obnd (gi ρ h) fun ds h1 => obnd (lcL k t f (wipeE ρ vs) ds h1) fun r h2 => if r.length ≤ sizeLine then mkL m r h2 else none
def bYes : BM := fun _ h => some (true, h)
abbrev DTs (X : Cx) (ifs : List Expr) (t : BM) : Prop := PTs X ifs (tT t)
section
variable {X : Cx}
theorem _root_.L2.PTs.weak {X : Cx} {e : List Expr} {t t' : TT} (h : PTs X e t) (i : ∀ σ H Q, t' σ H Q → t σ H Q) : PTs X e t' := ⟨fun pins s σ H Q I q => h.run pins s σ H Q I (i σ H Q q)⟩
theorem dts_nil : DTs X [] bYes := pts_nil.weak fun σ H Q => by
  rintro ⟨M, h, ρ, r, rs, c⟩
  exact c.fin (.refl _ _) r rfl
end
def Mm.made (M : Mm) (p : Addr) : Mm := ⟨p :: M.u, M.m⟩
theorem ext_made {M : Mm} {H : Hp} {p : Addr} {o : HO} (n : H p = none) : Ext M (M.made p) H (upd H p o) :=
  ⟨fun a m => by
    rcases List.mem_cons.mp m with rfl | m
    · exact .inr n
    · exact .inl m, trk_upd, fun a u e _ => by rw [upd_ne (ne_of_none e n)]; exact e, fun _ m => .inl m, Nat.le_refl _, fun _ _ => .inl rfl⟩
theorem Rep.make {M : Mm} {H : Hp} {h : Hh} (r : Rep M H h) {p : Addr} {o : HO} (n : H p = none) (ho : tpO o = false := by rfl) : Rep (M.made p) (upd H p o) h := by
  refine ⟨fun a m => ?_, r.len, r.inj, fun i a e => ?_, r.dead⟩
  · rcases List.mem_cons.mp m with rfl | m
    · exact ⟨fun z => r.new n (.inr z), o, upd_same, ho⟩
    · obtain ⟨h1, u, e, ht⟩ := r.us a m
      exact ⟨h1, u, by rw [upd_ne (ne_of_none e n)]; exact e, ht⟩
  · obtain ⟨u, hu, ro⟩ := r.at_ i a e
    obtain ⟨z, hz⟩ := ro.some_
    exact ⟨u, hu, ro.move (ext_made n) (upd_ne (ne_of_none hz n))⟩
mutual
theorem RD.off {M : Mm} {H : Hp} {p : Addr} {o : HO} (hp : p ∈ M.u) : ∀ {v : V} {d : D}, RD M H v d → RD M (upd H p o) v d
  | _, _, .non => .non
  | _, _, .bl b => .bl b
  | _, _, .int i => .int i
  | _, _, .str s => .str s
  | _, _, .tup n e r => .tup n (e.to fun _ q => by rw [upd_ne (fun z => n (.inl (by rw [z]; exact hp)))]; exact q) (RDs.off hp r)
  | _, _, .lst n e r => .lst n (by rw [upd_ne (fun z => n (.inl (by rw [z]; exact hp)))]; exact e) (RDs.off hp r)
  | _, _, .dic n e r => .dic n (by rw [upd_ne (fun z => n (.inl (by rw [z]; exact hp)))]; exact e) (RDk.off hp r)
  | _, _, .dit n e r => .dit n (by rw [upd_ne (fun z => n (.inl (by rw [z]; exact hp)))]; exact e) (RDt.off hp r)
theorem RDs.off {M : Mm} {H : Hp} {p : Addr} {o : HO} (hp : p ∈ M.u) : ∀ {v : List V} {d : List D}, RDs M H v d → RDs M (upd H p o) v d
  | _, _, .nil => .nil
  | _, _, .cons a r => .cons (RD.off hp a) (RDs.off hp r)
theorem RDk.off {M : Mm} {H : Hp} {p : Addr} {o : HO} (hp : p ∈ M.u) : ∀ {v : List (Key × V)} {d : List (D × D)}, RDk M H v d → RDk M (upd H p o) v d
  | _, _, .nil => .nil
  | _, _, .cons a r => .cons (RD.off hp a) (RDk.off hp r)
theorem RDt.off {M : Mm} {H : Hp} {p : Addr} {o : HO} (hp : p ∈ M.u) : ∀ {v : List KA} {d : List (D × D)}, RDt M H v d → RDt M (upd H p o) v d
  | _, _, .nil => .nil
  | _, _, .cons n e a r => .cons n (e.to fun _ q => by rw [upd_ne (fun z => n (.inl (by rw [z]; exact hp)))]; exact q) (RD.off hp a) (RDt.off hp r)
end
theorem RO.off {M : Mm} {H : Hp} {p a : Addr} {o : HO} {m : MO} (hp : p ∈ M.u) (hn : a ≠ p) (r : RO M H a m) : RO M (upd H p o) a m := by
  cases m with
  | lst ds => obtain ⟨xs, h, r⟩ := r; exact ⟨xs, by rw [upd_ne hn]; exact h, r.off hp⟩
  | dic ds => obtain ⟨xs, h, r⟩ := r; exact ⟨xs, by rw [upd_ne hn]; exact h, r.off hp⟩
  | dit ds => obtain ⟨xs, h, r⟩ := r; exact ⟨xs, by rw [upd_ne hn]; exact h, r.off hp⟩
  | ins C fs => obtain ⟨dx, gs, h, r⟩ := r; exact ⟨dx, gs, by rw [upd_ne hn]; exact h, r.to fun _ _ => RD.off hp⟩
  | obj C fs => obtain ⟨dx, gs, h, r⟩ := r; exact ⟨dx, gs, by rw [upd_ne hn]; exact h, r.to (fun _ _ _ q => .inl q) fun _ _ => RD.off hp⟩
  | los os => obtain ⟨xs, h, r⟩ := r; exact ⟨xs, by rw [upd_ne hn]; exact h, r.to (fun _ _ _ n => n) (fun b _ q _ n => by rw [upd_ne (fun z => n (.inl (by rw [z]; exact hp)))]; exact q) fun _ _ => RD.off hp⟩
  | tab q P =>
    obtain ⟨z, ps, h, t, r⟩ := r
    refine ⟨z, ps, by rw [upd_ne hn]; exact h, t, fun pos cv hc => ?_⟩
    obtain ⟨c, e1, n, e2⟩ := r pos cv hc
    exact ⟨c, e1, n, by rw [upd_ne (fun z => n (.inl (by rw [z]; exact hp)))]; exact e2⟩
theorem Rep.off {M : Mm} {H : Hp} {h : Hh} (r : Rep M H h) {p : Addr} {o : HO} (hp : p ∈ M.u) (ho : tpO o = false := by rfl) : Rep M (upd H p o) h := by
  refine ⟨fun a m => ?_, r.len, r.inj, fun i a e => ?_, r.dead⟩
  · obtain ⟨h1, u, e, ht⟩ := r.us a m
    refine ⟨h1, ?_⟩
    by_cases z : a = p
    · subst z; exact ⟨o, upd_same, ho⟩
    · exact ⟨u, by rw [upd_ne z]; exact e, ht⟩
  · obtain ⟨u, hu, ro⟩ := r.at_ i a e
    exact ⟨u, hu, ro.off hp fun z => (r.us p hp).1 (by rw [← z]; exact List.mem_of_getElem? e)⟩
theorem RV.off {M : Mm} {H : Hp} {p : Addr} {o : HO} {v : V} (hp : p ∈ M.u) : ∀ {w : W}, RV M H v w → RV M (upd H p o) v w
  | .dat _, r => RD.off hp r
  | .ref _, r => r
  | .scr _, ⟨a, u, e, n, q⟩ => ⟨a, u, e, n, by rw [upd_ne (fun z => n (.inl (by rw [z]; exact hp)))]; exact q⟩
  | .pack _, ⟨a, u, e, n, q, r⟩ => ⟨a, u, e, n, by rw [upd_ne (fun z => n (.inl (by rw [z]; exact hp)))]; exact q, r.move (fun _ _ z => z) fun _ _ => RD.off hp⟩
  | .lock _, ⟨a, u, kvs, e, n, q, r⟩ => ⟨a, u, kvs, e, n, by rw [upd_ne (fun z => n (.inl (by rw [z]; exact hp)))]; exact q, r.off hp⟩
  | .ins _ _, ⟨a, u, gs, e, n, q, r⟩ => ⟨a, u, gs, e, n, by rw [upd_ne (fun z => n (.inl (by rw [z]; exact hp)))]; exact q, r.to fun _ _ => RD.off hp⟩
  | .objs _, r => RWs.to r (fun _ _ _ n => n) (fun b _ q _ n => by rw [upd_ne (fun z => n (.inl (by rw [z]; exact hp)))]; exact q) fun _ _ => RD.off hp
  | .exc _ _ _, ⟨a, d, gs, e, r⟩ => ⟨a, d, gs, e, r.to (fun _ _ _ n => n) (fun b _ q _ n => by rw [upd_ne (fun z => n (.inl (by rw [z]; exact hp)))]; exact q) fun _ _ => RD.off hp⟩
theorem RS.off {M : Mm} {H : Hp} {ρ : Env} {σ : L2.St} {p : Addr} {o : HO} (hp : p ∈ M.u) (r : RS M H ρ σ) : RS M (upd H p o) ρ σ := ⟨r.1, fun i w e => by
  obtain ⟨v, e1, q⟩ := r.2 i w e
  exact ⟨v, e1, q.off hp⟩⟩
theorem RV.moveu {M M' : Mm} {H H' : Hp} (x : Ext M M' H H') (hm : M'.m = M.m) {v : V} : ∀ {w : W}, RV M H v w → RV M' H' v w
  | .dat _, r => RD.mono x r
  | .ref n, ⟨a, e, r⟩ => ⟨a, by rw [hm]; exact e, r⟩
  | .scr ns, ⟨a, o, e, n, q⟩ => ⟨a, o, e, x.out n q, x.st n q⟩
  | .pack its, ⟨a, xs, e, n, q, r⟩ => ⟨a, xs, e, x.out n q, x.st n q, r.move (fun i b z => by rw [hm]; exact z) fun _ _ => RD.mono x⟩
  | .lock es, ⟨a, o, kvs, e, n, q, r⟩ => ⟨a, o, kvs, e, x.out n q, x.st n q, r.mono x⟩
  | .ins _ _, ⟨a, o, gs, e, n, q, r⟩ => ⟨a, o, gs, e, x.out n q, x.st n q, r.to fun _ _ => RD.mono x⟩
  | .objs _, r => RWs.to r (fun _ _ q n => x.out n q) (fun _ _ q _ n => x.st n q) fun _ _ => RD.mono x
  | .exc _ _ _, ⟨a, d, gs, e, r⟩ => ⟨a, d, gs, e, r.to (fun _ _ q n => x.out n q) (fun _ _ q _ n => x.st n q) fun _ _ => RD.mono x⟩
theorem RS.moveu {M M' : Mm} {H H' : Hp} (x : Ext M M' H H') (hm : M'.m = M.m) {ρ : Env} {σ : L2.St} (r : RS M H ρ σ) : RS M' H' ρ σ := ⟨r.1, fun i w e => by
  obtain ⟨v, e1, q⟩ := r.2 i w e
  exact ⟨v, e1, q.moveu x hm⟩⟩
mutual
theorem RD.sub {M M' : Mm} {H : Hp} (x : ∀ a, M'.Has a → M.Has a) : ∀ {v : V} {d : D}, RD M H v d → RD M' H v d
  | _, _, .non => .non
  | _, _, .bl b => .bl b
  | _, _, .int i => .int i
  | _, _, .str s => .str s
  | _, _, .tup n e r => .tup (fun z => n (x _ z)) e (RDs.sub x r)
  | _, _, .lst n e r => .lst (fun z => n (x _ z)) e (RDs.sub x r)
  | _, _, .dic n e r => .dic (fun z => n (x _ z)) e (RDk.sub x r)
  | _, _, .dit n e r => .dit (fun z => n (x _ z)) e (RDt.sub x r)
theorem RDs.sub {M M' : Mm} {H : Hp} (x : ∀ a, M'.Has a → M.Has a) : ∀ {v : List V} {d : List D}, RDs M H v d → RDs M' H v d
  | _, _, .nil => .nil
  | _, _, .cons a r => .cons (RD.sub x a) (RDs.sub x r)
theorem RDk.sub {M M' : Mm} {H : Hp} (x : ∀ a, M'.Has a → M.Has a) : ∀ {v : List (Key × V)} {d : List (D × D)}, RDk M H v d → RDk M' H v d
  | _, _, .nil => .nil
  | _, _, .cons a r => .cons (RD.sub x a) (RDk.sub x r)
theorem RDt.sub {M M' : Mm} {H : Hp} (x : ∀ a, M'.Has a → M.Has a) : ∀ {v : List KA} {d : List (D × D)}, RDt M H v d → RDt M' H v d
  | _, _, .nil => .nil
  | _, _, .cons n e a r => .cons (fun z => n (x _ z)) e (RD.sub x a) (RDt.sub x r)
end
theorem RO.sub {M M' : Mm} {H : Hp} {a : Addr} {m : MO} (x : ∀ a, M'.Has a → M.Has a) (k : ∀ n ∈ m.refs, ∀ z, M.m[n]? = some z → M'.m[n]? = some z ∨ M'.m[n]? = some none) (r : RO M H a m) : RO M' H a m := by
  cases m with
  | lst ds => obtain ⟨xs, h, r⟩ := r; exact ⟨xs, h, r.sub x⟩
  | dic ds => obtain ⟨xs, h, r⟩ := r; exact ⟨xs, h, r.sub x⟩
  | dit ds => obtain ⟨xs, h, r⟩ := r; exact ⟨xs, h, r.sub x⟩
  | ins C fs => obtain ⟨dx, gs, h, r⟩ := r; exact ⟨dx, gs, h, r.to fun _ _ => RD.sub x⟩
  | obj C fs => obtain ⟨dx, gs, h, r⟩ := r; exact ⟨dx, gs, h, r.to k fun _ _ => RD.sub x⟩
  | los os => obtain ⟨xs, h, r⟩ := r; exact ⟨xs, h, r.to (fun b _ _ n z => n (x b z)) (fun _ _ q _ _ => q) fun _ _ => RD.sub x⟩
  | tab q P =>
    obtain ⟨z, ps, h, t, r⟩ := r
    refine ⟨z, ps, h, t, fun pos cv hc => ?_⟩
    obtain ⟨c, e1, n, e2⟩ := r pos cv hc
    exact ⟨c, e1, fun z => n (x _ z), e2⟩
theorem less_has {u : List Addr} {m : List (Option Addr)} {p : Addr} : ∀ b, Mm.Has ⟨u, m⟩ b → Mm.Has ⟨p :: u, m⟩ b := fun b z => by
  rcases z with z | z
  · exact .inl (List.mem_cons_of_mem _ z)
  · exact .inr z
theorem Rep.told {u : List Addr} {m : List (Option Addr)} {p : Addr} {H : Hp} {h : Hh} (r : Rep ⟨p :: u, m⟩ H h) : Rep ⟨u, m⟩ H h :=
  ⟨fun a z => r.us a (List.mem_cons_of_mem _ z), r.len, r.inj, fun i a e => by
    obtain ⟨o, h1, h2⟩ := r.at_ i a e
    exact ⟨o, h1, h2.sub less_has fun _ _ _ q => .inl q⟩, r.dead⟩
theorem Rep.owned {u : List Addr} {m : List (Option Addr)} {p : Addr} {H : Hp} {h : Hh} {o : MO} (r : Rep ⟨p :: u, m⟩ H h) (hp : p ∉ u) (ro : RO ⟨p :: u, m⟩ H p o) : Rep ⟨u, m ++ [some p]⟩ H (h ++ [some o]) := by
  have hpm : some p ∉ m := (r.us p List.mem_cons_self).1
  have hsub : ∀ b, Mm.Has ⟨u, m ++ [some p]⟩ b → Mm.Has ⟨p :: u, m⟩ b := fun b z => by
    rcases z with z | z
    · exact .inl (List.mem_cons_of_mem _ z)
    · rcases List.mem_append.mp z with z | z
      · exact .inr z
      · have : b = p := by simpa using z
        rw [this]; exact .inl List.mem_cons_self
  have hk : ∀ {w : MO}, ∀ n ∈ w.refs, ∀ z, m[n]? = some z → (m ++ [some p])[n]? = some z ∨ (m ++ [some p])[n]? = some none := fun n _ z q => .inl (by rw [List.getElem?_append_left (List.getElem?_eq_some_iff.mp q).1]; exact q)
  have rl : m.length = h.length := r.len
  have cases_ : ∀ (i : Nat) (z : Option Addr), (m ++ [some p])[i]? = some z → (i < m.length ∧ m[i]? = some z) ∨ (i = m.length ∧ z = some p) := fun i z e => by
    by_cases hi : i < m.length
    · rw [List.getElem?_append_left hi] at e
      exact .inl ⟨hi, e⟩
    · rw [List.getElem?_append_right (by omega)] at e
      by_cases h0 : i - m.length = 0
      · rw [h0] at e
        exact .inr ⟨by omega, by simpa using e.symm⟩
      · rw [List.getElem?_eq_none (by simp; omega)] at e
        cases e
  refine ⟨fun a z => ?_, by simp [rl], fun i j a e1 e2 => ?_, fun i a e => ?_, fun i e => ?_⟩
  · obtain ⟨h1, q⟩ := r.us a (List.mem_cons_of_mem _ z)
    refine ⟨fun y => ?_, q⟩
    rcases List.mem_append.mp y with y | y
    · exact h1 y
    · have : a = p := by simpa using y
      rw [this] at z; exact hp z
  · rcases cases_ i _ e1 with ⟨h1, e1⟩ | ⟨h1, e1⟩ <;> rcases cases_ j _ e2 with ⟨h2, e2⟩ | ⟨h2, e2⟩
    · exact r.inj i j a e1 e2
    · cases e2; exact absurd (List.mem_of_getElem? e1) hpm
    · cases e1; exact absurd (List.mem_of_getElem? e2) hpm
    · omega
  · rcases cases_ i _ e with ⟨h1, e1⟩ | ⟨h1, e1⟩
    · obtain ⟨z, hz, q⟩ := r.at_ i a e1
      exact ⟨z, by rw [List.getElem?_append_left (by rw [← rl]; exact h1)]; exact hz, q.sub hsub hk⟩
    · cases e1
      subst h1
      exact ⟨o, by rw [rl]; simp, ro.sub hsub hk⟩
  · rcases cases_ i _ e with ⟨h1, e1⟩ | ⟨h1, e1⟩
    · rw [List.getElem?_append_left (by rw [← rl]; exact h1)]
      exact r.dead i e1
    · cases e1
theorem ExtE.reu {M M' : Mm} {H H' : Hp} (x : ExtE M M' H H') (u : List Addr) : ExtE ⟨u, M.m⟩ ⟨u, M'.m⟩ H H' := ⟨rfl, x.trk, x.stab, x.fresh, x.len, x.pre⟩
theorem ExtE.beside {M M' : Mm} {H H' : Hp} {p : Addr} {o : HO} (x : ExtE M M' H H') (n : H p = none) : ExtE M M' H (upd H' p o) :=
  ⟨x.same, fun a u e => by obtain ⟨u', e'⟩ := x.trk a u e; exact trk_upd a u' e', fun a u e na => by rw [upd_ne (ne_of_none e n)]; exact x.stab a u e na, x.fresh, x.len, x.pre⟩
theorem ExtE.into {M : Mm} {m : List (Option Addr)} {H H' : Hp} {p : Addr} (x : ExtE M ⟨M.u, m⟩ H H') (n : H p = none) : Ext M ⟨p :: M.u, m⟩ H H' :=
  ⟨fun a z => by
    rcases List.mem_cons.mp z with rfl | z
    · exact .inr n
    · exact .inl z, x.trk, x.stab, x.fresh, x.len, fun i hi => .inl (x.pre i hi)⟩
theorem lc_imp {gi : IM} {k : TM} {t : BM} {f : EM} {ts vs : List Nat} {m : Bool} (hs : ∀ j ∈ ts, j ∈ vs) : ∀ σ H Q, tE (fLc m gi k t f vs) σ H Q → tLc (tI gi) (tGd ts k) (tT t) (tE f) vs σ H Q := fun σ H Q => by
  rintro ⟨M, h, ρ, r, rs, c⟩
  obtain ⟨ds, h1, e1, c1⟩ := Cont.bind (δ := Unit) c
  refine ⟨M, h, ρ, ds, h1, r, rs, e1, fun M1 H1 J x1 r1 it D nD => ?_⟩
  obtain ⟨out, h2, e2, c2⟩ := Cont.bind (δ := Unit) (c1 M1 H1 x1)
  have x0 := ext_made (M := M1) (o := .lst []) nD
  have r0 := r1.make (o := .lst []) nD
  have rs0 : RS (M1.made D) (upd H1 D (.lst [])) (wipeE ρ vs) (L2.wipe σ vs) := ((rs.mono x1).moveu x0 rfl).wipe vs
  let P : Nat → Hp → Prop := fun i Hi => ∃ mi hi acc dacc rest, ExtE M1 ⟨M1.u, mi⟩ H1 Hi ∧ Rep ⟨D :: M1.u, mi⟩ Hi hi ∧ RS ⟨D :: M1.u, mi⟩ Hi (wipeE ρ vs) (L2.wipe σ vs) ∧ Hi D = some (.lst acc) ∧ RDs ⟨D :: M1.u, mi⟩ Hi acc dacc ∧ lcL k t f (wipeE ρ vs) (ds.drop i) hi = some (rest, h2) ∧ dacc ++ rest = out
  have outlen : out.length ≤ sizeLine := by
    have c3 := c2 M1 H1 (.refl _ _)
    by_cases hz : out.length ≤ sizeLine
    · exact hz
    · rw [if_neg hz] at c3; exact c3.no.elim
  refine ⟨fun i n Hi => n + i = ds.length ∧ P i Hi, ⟨ds.length, by omega, M1.m, h1, [], [], out, (ExtE.refl M1 H1).beside nD, r0, rs0, upd_same, .nil, by rw [List.drop_zero]; exact e2, rfl⟩, fun i n Hi w => ?_⟩
  obtain ⟨hn, mi, hi, acc, dacc, rest, xi, ri, rsi, hD, qa, el, eo⟩ := w
  have inD : D ∈ (⟨D :: M1.u, mi⟩ : Mm).u := List.mem_cons_self
  have itx := xi.into nD
  obtain ⟨ity, its⟩ := it _ Hi itx fun a ha => ri.tracked ha
  by_cases hlt : i < ds.length
  · refine .inr ?_
    have ed : ds[i]? = some ds[i] := List.getElem?_eq_getElem hlt
    obtain ⟨go, yl⟩ := ity i _ ed
    rw [List.drop_eq_getElem_cons hlt] at el
    refine ⟨go, P (i + 1), fun H' p => ⟨n - 1, by omega, by omega, p⟩, fun x H2 hy => ?_⟩
    obtain ⟨sm, rx⟩ := yl x H2 hy
    obtain ⟨ri2, xi2⟩ := ri.grow sm
    unfold lcL at el
    split at el
    · rename_i ρ1 ek
      refine ⟨_, hi, wipeE ρ vs, .dat ds[i], ρ1, ri2, rsi.mono xi2, rx, ek, fun σ2 rs2 l2 o2 => ⟨wipe_of (by rw [l2, L2.wipe_length]) o2 hs, ?_⟩⟩
      cases et : t ρ1 hi with
      | none => rw [et] at el; cases el
      | some pr =>
        obtain ⟨b, h3⟩ := pr
        rw [et] at el
        simp only [obnd_some] at el
        refine ⟨_, hi, ρ1, ri2, rs2, b, h3, et, fun M3 H3 b' x3 r3 eb => ?_⟩
        subst eb
        obtain ⟨u3, m3⟩ := M3
        obtain rfl : u3 = D :: M1.u := x3.same
        have xi3 : ExtE M1 ⟨M1.u, m3⟩ H1 H3 := xi.trans ((xi2.trans x3).reu M1.u)
        have hD3 : H3 D = some (.lst acc) := x3.stab _ _ (sm _ _ hD) fun z => (ri.us D inD).1 z
        cases b' with
        | false =>
          simp only [Bool.false_eq_true, if_false] at el
          exact iteF ⟨m3, h3, acc, dacc, rest, xi3, r3, (rsi.mono xi2).mono x3, hD3, (qa.mono xi2.ext).mono x3.ext, el, eo⟩
        | true =>
          simp only [if_true] at el
          refine iteT ?_
          cases ef : f ρ1 h3 with
          | none => rw [ef] at el; cases el
          | some pr =>
            obtain ⟨w, h4⟩ := pr
            rw [ef] at el
            simp only [obnd_some] at el
            refine ⟨_, h3, ρ1, r3, rs2.mono x3, w, h4, ef, fun M4 H4 y x4 r4 ry => ?_⟩
            obtain ⟨u4, m4⟩ := M4
            obtain rfl : u4 = D :: M1.u := x4.same
            have hD4 : H4 D = some (.lst acc) := x4.stab _ _ hD3 fun z => (r3.us D List.mem_cons_self).1 z
            split at el
            · rename_i d'
              cases er : lcL k t f (wipeE ρ vs) (ds.drop (i + 1)) h4 with
              | none => rw [er] at el; cases el
              | some pr =>
                obtain ⟨rest', h5⟩ := pr
                rw [er] at el
                simp only [obnd_some, Option.some.injEq, Prod.mk.injEq] at el
                obtain ⟨e5, e6⟩ := el
                subst e5 e6
                have q4 := ((qa.mono xi2.ext).mono x3.ext).mono x4.ext
                have hlen : acc.length < sizeLine := by
                  have h7 := congrArg List.length eo
                  rw [List.length_append, List.length_cons] at h7
                  rw [qa.length]; omega
                have in4 : D ∈ (⟨D :: M1.u, m4⟩ : Mm).u := List.mem_cons_self
                exact ⟨acc, hD4, hlen, m4, h4, acc ++ [y], dacc ++ [d'], rest', (xi3.trans (x4.reu M1.u)).beside nD, r4.off in4, (((rsi.mono xi2).mono x3).mono x4).off in4, upd_same, (q4.off in4).app (.cons (RD.off in4 ry) .nil), er, by rw [List.append_assoc]; exact eo⟩
            · cases el
    · cases el
  · refine .inl ?_
    have hi' : i = ds.length := by omega
    subst hi'
    rw [List.drop_length] at el
    cases el
    rw [List.append_nil] at eo
    subst eo
    refine ⟨its, ?_⟩
    have c3 := c2 M1 H1 (.refl _ _)
    rw [if_pos outlen] at c3
    have nu : D ∉ M1.u := fun z => r1.new nD (.inl z)
    have nm : some D ∉ mi := (ri.us D inD).1
    cases m with
    | false =>
      exact c3.fin xi ri.told (RD.lst (fun z => z.elim nu nm) hD (qa.sub less_has))
    | true =>
      refine c3.fin (M' := ⟨M1.u, mi ++ [some D]⟩) ⟨rfl, xi.trk, xi.stab, fun a z => ?_, Nat.le_trans xi.len (by simp), fun j hj => ?_⟩ (ri.owned nu ⟨acc, hD, qa⟩) ⟨D, ?_, rfl⟩
      · rcases List.mem_append.mp z with z | z
        · exact xi.fresh a z
        · have : a = D := by simpa using z
          rw [this]; exact .inr nD
      · have hl : j < mi.length := Nat.lt_of_lt_of_le hj xi.len
        show (mi ++ [some D])[j]? = _
        rw [List.getElem?_append_left hl]; exact xi.pre j hj
      · show (mi ++ [some D])[h2.length]? = _
        rw [← show mi.length = h2.length from ri.len]; simp
section
variable {X : Cx}
theorem d_lc (m : Bool) {elt tg iter : Expr} {ifs : List Expr} {scope : Scope} {own : List (Str × Nat)} {pos : Pos} {gi : IM} {ts : List Nat} {k : TM} {t : BM} {f : EM} (hc : X.calm = true) (hN : X.N.Nodup) (hi : DI X tg iter gi) (ok : BlkOk X.N X.env.scope scope own)
    (hg : ∀ (s : Shared) (H : Hp) (C : Addr) (cl : List (Str × Addr)) (fp : List Addr), DG (X.blk s H scope (compEnvC scope cl C X.env) fp) tg ts k) (ht : ∀ (s : Shared) (H : Hp) (C : Addr) (cl : List (Str × Addr)) (fp : List Addr), DTs (X.blk s H scope (compEnvC scope cl C X.env) fp) ifs t)
    (he : ∀ (s : Shared) (H : Hp) (C : Addr) (cl : List (Str × Addr)) (fp : List Addr), DE (X.blk s H scope (compEnvC scope cl C X.env) fp) elt f) (hsub : ∀ j ∈ ts, j ∈ own.map (·.2)) (hs : ∀ x, foldedSetIterable iter X.env x = pure x := by intro _; rfl) :
    DE X (.ListComp elt [⟨tg, iter, ifs, 0⟩] scope pos) (fLc m gi k t f (own.map (·.2))) := (pe_lc hc hN hi ok hg ht he hs).weak (lc_imp hsub)
end
end DL
set_option maxRecDepth 100000
set_option maxHeartbeats 4000000
namespace DL
open PySem PySem.Spec PyProof.Rows L2
variable [HW]
inductive Out where
  | nx (ρ : Env) | rt (w : W) | bk (ρ : Env) | ct (ρ : Env)
abbrev SM := Env → Hh → Option (Out × Hh)
def SPost (D : Ends) (M0 : Mm) (H0 : Hp) (r : Option (Out × Hh)) : Prop := match r with
  | some (.nx ρ, h) => ∀ M H σ, M.u = M0.u → Ext M0 M H0 H → Rep M H h → RS M H ρ σ → D.nx σ H
  | some (.rt w, h) => ∀ M H v, M.u = M0.u → Ext M0 M H0 H → Rep M H h → RV M H v w → D.rt v H
  | some (.bk ρ, h) => ∀ M H σ, M.u = M0.u → Ext M0 M H0 H → Rep M H h → RS M H ρ σ → D.bk σ H
  | some (.ct ρ, h) => ∀ M H σ, M.u = M0.u → Ext M0 M H0 H → Rep M H h → RS M H ρ σ → D.ct σ H
  | none => False
theorem SPost.mono {D : Ends} {M0 M1 : Mm} {H0 H1 : Hp} {r : Option (Out × Hh)} (p : SPost D M0 H0 r) (u : M1.u = M0.u) (x : Ext M0 M1 H0 H1) : SPost D M1 H1 r := by
  match r, p with
  | some (.nx ρ, h), p => exact fun M H σ e y => p M H σ (e.trans u) (x.trans y)
  | some (.rt w, h), p => exact fun M H σ e y => p M H σ (e.trans u) (x.trans y)
  | some (.bk ρ, h), p => exact fun M H σ e y => p M H σ (e.trans u) (x.trans y)
  | some (.ct ρ, h), p => exact fun M H σ e y => p M H σ (e.trans u) (x.trans y)
def tS (f : SM) : TS := fun D σ H => ∃ M h ρ, Rep M H h ∧ RS M H ρ σ ∧ SPost D M H (f ρ h)
abbrev DS (X : Cx) (st : Stmt) (f : SM) : Prop := PS X st (tS f)
abbrev DSs (X : Cx) (sts : List Stmt) (f : SM) : Prop := PSs X sts (tS f)
def sSeq (f g : SM) : SM := fun ρ h => match f ρ h with
  | some (.nx ρ1, h1) => g ρ1 h1
  | r => r
def sSkip : SM := fun ρ h => some (.nx ρ, h)
def sNever : SM := fun _ _ => none
section
variable {X : Cx}
theorem seq_imp {f g : SM} : ∀ D σ H, tS (sSeq f g) D σ H → tSeq (tS f) (tS g) D σ H := fun D σ H => by
  rintro ⟨M, h, ρ, r, rs, p⟩
  refine ⟨M, h, ρ, r, rs, ?_⟩
  unfold sSeq at p
  cases e : f ρ h with
  | none => rw [e] at p; exact p
  | some q =>
    obtain ⟨o, h1⟩ := q
    rw [e] at p
    cases o with
    | nx ρ1 => exact fun M1 H1 σ1 u x r1 rs1 => ⟨M1, h1, ρ1, r1, rs1, p.mono u x⟩
    | rt w => exact p
    | bk ρ1 => exact p
    | ct ρ1 => exact p
theorem ds_cons {st : Stmt} {sts : List Stmt} {f g : SM} (h1 : DS X st f) (h2 : DSs X sts g) : DSs X (st :: sts) (sSeq f g) := (pss_cons h1 h2).weak seq_imp
theorem ds_one {st : Stmt} {f : SM} (h1 : DS X st f) : DSs X [st] f := pss_one h1
theorem ds_nil : DSs X [] sSkip := pss_nil.weak fun D σ H => by
  rintro ⟨M, h, ρ, r, rs, p⟩
  exact p M H σ rfl (.refl _ _) r rs
def sbnd {α : Type} (r : Option (α × Hh)) (k : α → Hh → Option (Out × Hh)) : Option (Out × Hh) := match r with
  | some (a, h) => k a h
  | none => none
@[simp] theorem sbnd_some {α : Type} (a : α) (h : Hh) (k : α → Hh → Option (Out × Hh)) : sbnd (some (a, h)) k = k a h := rfl
@[simp] theorem sbnd_none {α : Type} (k : α → Hh → Option (Out × Hh)) : sbnd none k = none := rfl
theorem SPost.bind {α : Type} {D : Ends} {M : Mm} {H : Hp} {r : Option (α × Hh)} {k : α → Hh → Option (Out × Hh)} (p : SPost D M H (sbnd r k)) : ∃ a h1, r = some (a, h1) ∧ SPost D M H (k a h1) := by
  cases r with
  | none => exact p.elim
  | some q => obtain ⟨a, h1⟩ := q; exact ⟨a, h1, rfl, p⟩
def sExpr (f : EM) : SM := fun ρ h => sbnd (f ρ h) fun _ h1 => some (.nx ρ, h1)
def sRet (f : EM) : SM := fun ρ h => sbnd (f ρ h) fun w h1 => some (.rt w, h1)
theorem ds_ret {e : Expr} {pos : Pos} {f : EM} (he : DE X e f) : DS X (.Return (some e) pos) (sRet f) := (ps_ret he).weak fun D σ H => by
  rintro ⟨M, h, ρ, r, rs, p⟩
  obtain ⟨w, h1, e1, p1⟩ := p.bind
  exact ⟨M, h, ρ, r, rs, w, h1, e1, fun M1 H1 v x1 r1 v1 => p1 M1 H1 v x1.same x1.ext r1 v1⟩
def sRetN : SM := fun _ h => some (.rt (.dat .none), h)
def sIf (t : BM) (f g : SM) : SM := fun ρ h => sbnd (t ρ h) fun b h1 => if b = true then f ρ h1 else g ρ h1
theorem ds_if {c : Expr} {a b : List Stmt} {pos : Pos} {t : BM} {f g : SM} (hc : DT X c t) (ha : DSs X a f) (hb : DSs X b g) : DS X (.If c a b pos) (sIf t f g) := (ps_if hc ha hb).weak fun D σ H => by
  rintro ⟨M, h, ρ, r, rs, p⟩
  obtain ⟨w, h1, e1, p1⟩ := p.bind
  refine ⟨M, h, ρ, r, rs, w, h1, e1, fun M1 H1 v x1 r1 v1 => ?_⟩
  subst v1
  have p2 := p1.mono x1.same x1.ext
  cases v with
  | true => exact iteT ⟨M1, h1, ρ, r1, rs.mono x1, p2⟩
  | false => exact iteF ⟨M1, h1, ρ, r1, rs.mono x1, p2⟩
def sAsg (f : EM) (g : TM) : SM := fun ρ h => sbnd (f ρ h) fun w h1 => match g w ρ h1 with
  | some ρ1 => some (.nx ρ1, h1)
  | none => none
theorem ds_set {i : Nat} {x : Str} {e : Expr} {pos pos' : Pos} {f : EM} (h : PS X (.Assign [.Name x pos'] e pos) (tAsg (tE f) (gName i))) : DS X (.Assign [.Name x pos'] e pos) (sAsg f (gN i)) := h.weak fun D σ H => by
  rintro ⟨M, h, ρ, r, rs, p⟩
  obtain ⟨w, h1, e1, p1⟩ := p.bind
  exact ⟨M, h, ρ, r, rs, w, h1, e1, fun M1 H1 v x1 r1 v1 => p1 M1 H1 _ x1.same x1.ext r1 ((rs.mono x1).set v1)⟩
theorem ds_setLc (m : Bool) {i : Nat} {y : Str} {py : Pos} {elt tg iter : Expr} {ifs : List Expr} {scope : Scope} {own : List (Str × Nat)} {pos spos : Pos} {gi : IM} {ts : List Nat} {k : TM} {t : BM} {f : EM} (hc : X.calm = true) (hN : X.N.Nodup) (hy : X.N[i]? = some y) (hyl : X.env.scope.names.lookup y = some .local)
    (hsw : swapsWith (.ListComp elt [⟨tg, iter, ifs, 0⟩] scope pos) (some (.Name y py)) spos.line X.env = pure true) (hi : DI X tg iter gi) (ok : BlkOk X.N X.env.scope scope own)
    (hg : ∀ (s : Shared) (H : Hp) (C : Addr) (cl : List (Str × Addr)) (fp : List Addr), DG (X.blk s H scope (compEnvC scope cl C X.env) fp) tg ts k) (ht : ∀ (s : Shared) (H : Hp) (C : Addr) (cl : List (Str × Addr)) (fp : List Addr), DTs (X.blk s H scope (compEnvC scope cl C X.env) fp) ifs t)
    (he : ∀ (s : Shared) (H : Hp) (C : Addr) (cl : List (Str × Addr)) (fp : List Addr), DE (X.blk s H scope (compEnvC scope cl C X.env) fp) elt f) (hsub : ∀ j ∈ ts, j ∈ own.map (·.2)) (hs : ∀ x, foldedSetIterable iter X.env x = pure x := by intro _; rfl) :
    DS X (.Assign [.Name y py] (.ListComp elt [⟨tg, iter, ifs, 0⟩] scope pos) spos) (sAsg (fLc m gi k t f (own.map (·.2))) (gN i)) := (ps_setLc hc hN hy hyl hsw hi ok hg ht he hs).weak fun D σ H => by
  rintro ⟨M, h, ρ, r, rs, p⟩
  obtain ⟨w, h1, e1, p1⟩ := p.bind
  exact lc_imp hsub σ H _ ⟨M, h, ρ, r, rs, w, h1, e1, fun M1 H1 v x1 r1 v1 => p1 M1 H1 _ x1.same x1.ext r1 ((rs.mono x1).set v1)⟩
def sPar (g : AM) (is : List Nat) : SM := fun ρ h => sbnd (g ρ h) fun ws h1 => if ws.length = is.length then some (.nx ((is.zip ws).foldl (fun ρ p => ρ.set p.1 (some p.2)) ρ), h1) else none
theorem ds_par2 {i j : Nat} {st : Stmt} {g : AM} (h : PS X st (tPar i j (tA g))) : DS X st (sPar g [i, j]) := h.weak fun D σ H => by
  rintro ⟨M, h, ρ, r, rs, p⟩
  obtain ⟨ws, h1, e1, p1⟩ := p.bind
  refine ⟨M, h, ρ, r, rs, ws, h1, e1, fun M1 H1 vs x1 r1 v1 => ?_⟩
  split at p1
  · rename_i hz
    match ws, hz, v1, p1 with
    | [w1, w2], _, v1, p1 =>
      obtain ⟨a, b, rfl, ra, rb⟩ := rvs2 v1
      exact ⟨a, b, rfl, p1 M1 H1 _ x1.same x1.ext r1 (((rs.mono x1).set ra).set rb)⟩
  · exact p1.elim
def setW (o i : W) (w : W) (h : Hh) : Option Hh := match o, i, w with
  | .ref n, .dat (.int k), .dat d => match lstAt h n with
    | some ds => match ixN ds.length k with
      | some j => some (h.set n (some (.lst (ds.set j d))))
      | none => none
    | none => none
  | _, _, _ => none
def sSub (f o i : EM) : SM := fun ρ h => sbnd (f ρ h) fun w h1 => sbnd (o ρ h1) fun a h2 => sbnd (i ρ h2) fun b h3 => match setW a b w h3 with
  | some h4 => some (.nx ρ, h4)
  | none => none
theorem sub_imp {f o i : EM} : ∀ D σ H, tS (sSub f o i) D σ H → tAsg (tE f) (gSub (tE o) (tE i) rSetL) D σ H := fun D σ H => by
  rintro ⟨M, h, ρ, r, rs, p⟩
  obtain ⟨w, h1, e1, p1⟩ := p.bind
  refine ⟨M, h, ρ, r, rs, w, h1, e1, fun M1 H1 v x1 r1 v1 => ?_⟩
  obtain ⟨a, h2, e2, p2⟩ := p1.bind
  refine ⟨M1, h1, ρ, r1, rs.mono x1, a, h2, e2, fun M2 H2 v' x2 r2 v2 => ?_⟩
  obtain ⟨b, h3, e3, p3⟩ := p2.bind
  refine ⟨M2, h2, ρ, r2, (rs.mono x1).mono x2, b, h3, e3, fun M3 H3 v'' x3 r3 v3 => ?_⟩
  have ra := v2.mono x3
  have rw' := (v1.mono x2).mono x3
  unfold setW at p3
  split at p3
  · rename_i h4 e4
    split at e4
    · rename_i n k d
      obtain ⟨ad, ea, rfl⟩ := ra
      cases (show RD M3 H3 _ _ from v3)
      split at e4
      · rename_i ds el
        obtain ⟨xs, hx, q⟩ := lstAt_ok r3 el ea
        split at e4
        · rename_i j ej
          cases e4
          refine ⟨ad, xs, k, j, rfl, rfl, hx, by rw [q.length]; exact ej, ?_⟩
          have x4 := ext_set (H := H3) (o := .lst (xs.set j v)) ea
          have xx := ((x1.trans x2).trans x3).trans x4
          exact p3 M3 _ σ xx.same xx.ext (r3.set ea ⟨_, upd_same, (q.set j rw').mono x4.ext⟩) (rs.mono xx)
        · cases e4
      · cases e4
    · cases e4
  · exact p3.elim
theorem ds_sub {o i e : Expr} {pos tpos : Pos} {f fo fi : EM} (he : DE X e f) (ho : DE X o fo) (hi : DE X i fi) (h : PS X (.Assign [.Subscript o i tpos] e pos) (tAsg (tE f) (gSub (tE fo) (tE fi) rSetL))) : DS X (.Assign [.Subscript o i tpos] e pos) (sSub f fo fi) := h.weak sub_imp
def forL (k : TM) (body : SM) : List D → Env → Hh → Option (Out × Hh)
  | [], ρ, h => some (.nx ρ, h)
  | d :: ds, ρ, h => match k (.dat d) ρ h with
    | some ρ1 => match body ρ1 h with
      | some (.nx ρ2, h2) => forL k body ds ρ2 h2
      | some (.ct ρ2, h2) => forL k body ds ρ2 h2
      | some (.bk ρ2, h2) => some (.nx ρ2, h2)
      | some (.rt w, h2) => some (.rt w, h2)
      | none => none
    | none => none
def sFor (gi : IM) (k : TM) (body : SM) : SM := fun ρ h => sbnd (gi ρ h) fun ds h1 => forL k body ds ρ h1
theorem for_imp {gi : IM} {k : TM} {body : SM} {ts : List Nat} : ∀ D σ H, tS (sFor gi k body) D σ H → tFor (tI gi) (tGd ts k) (tS body) D σ H := fun D σ H => by
  rintro ⟨M, h, ρ, r, rs, p⟩
  obtain ⟨ds, h1, e1, p1⟩ := p.bind
  refine ⟨M, h, ρ, ds, h1, r, rs, e1, fun M1 H1 J x1 r1 it => ?_⟩
  have p2 := p1.mono x1.same x1.ext
  let P : Nat → L2.St → Hp → Prop := fun i σi Hi => ∃ Mi hi ρi, Mi.u = M1.u ∧ Ext M1 Mi H1 Hi ∧ Rep Mi Hi hi ∧ RS Mi Hi ρi σi ∧ SPost D Mi Hi (forL k body (ds.drop i) ρi hi)
  refine ⟨fun i n σi Hi => n + i = ds.length ∧ P i σi Hi, ⟨ds.length, by omega, M1, h1, ρ, rfl, .refl _ _, r1, rs.mono x1, by rw [List.drop_zero]; exact p2⟩, fun i n σi Hi w => ?_⟩
  obtain ⟨hn, Mi, hi, ρi, ui, xi, ri, rsi, pi⟩ := w
  obtain ⟨ity, its⟩ := it Mi Hi xi fun a ha => ri.tracked ha
  by_cases hlt : i < ds.length
  · refine .inr ?_
    have ed : ds[i]? = some ds[i] := List.getElem?_eq_getElem hlt
    obtain ⟨go, yl⟩ := ity i _ ed
    rw [List.drop_eq_getElem_cons hlt] at pi
    refine ⟨go, P (i + 1), fun σ' H' q => ⟨n - 1, by omega, by omega, q⟩, fun x H2 hy => ?_⟩
    obtain ⟨sm, rx⟩ := yl x H2 hy
    obtain ⟨ri2, xi2⟩ := ri.grow sm
    unfold forL at pi
    split at pi
    · rename_i ρ1 ek
      refine ⟨Mi, hi, ρi, .dat ds[i], ρ1, ri2, rsi.mono xi2, rx, ek, fun σ2 rs2 _ _ => ⟨Mi, hi, ρ1, ri2, rs2, ?_⟩⟩
      have pi' := pi.mono rfl xi2.ext
      cases eb : body ρ1 hi with
      | none => rw [eb] at pi'; exact pi'.elim
      | some q =>
        obtain ⟨o, h3⟩ := q
        rw [eb] at pi'
        cases o with
        | nx ρ2 => exact fun M3 H3 σ3 u3 x3 r3 rs3 => ⟨M3, h3, ρ2, u3.trans ui, (xi.trans xi2.ext).trans x3, r3, rs3, SPost.mono pi' u3 x3⟩
        | ct ρ2 => exact fun M3 H3 σ3 u3 x3 r3 rs3 => ⟨M3, h3, ρ2, u3.trans ui, (xi.trans xi2.ext).trans x3, r3, rs3, SPost.mono pi' u3 x3⟩
        | bk ρ2 => exact pi'
        | rt w => exact pi'
    · exact pi.elim
  · refine .inl ?_
    have hi' : i = ds.length := by omega
    subst hi'
    rw [List.drop_length] at pi
    exact ⟨its, pi Mi Hi σi rfl (.refl _ _) ri rsi⟩
theorem ds_for {tg iter : Expr} {body : List Stmt} {pos : Pos} {gi : IM} {k : TM} {ts : List Nat} {f : SM} (hc : X.calm = true) (hp : PassesOwn (model X.prog X.w) X.A X.env X.xe) (hi : DI X tg iter gi) (hg : DG X tg ts k) (hb : DSs X body f) (hs : ∀ x, foldedSetIterable iter X.env x = pure x := by intro _; rfl) : DS X (.For tg iter body [] pos) (sFor gi k f) :=
  (ps_for hp hc hi hg hb hs).weak for_imp
end
abbrev FM := List W → Hh → Option (W × Hh)
def live (h : Hh) : List (Option (List Nat)) := h.map (Option.map MO.refs)
def leave (rm : Bool) (h : Hh) (w : W) (h' : Hh) : Option (W × Hh) := if live (h'.take h.length) = live h then match w with
    | .ref n => if n < h.length then some (.ref n, h'.take h.length) else match h'[n]? with
      | some (some (.lst ds)) => if rm = true then some (.ref h.length, h'.take h.length ++ [some (.lst ds)]) else some (.dat (.list ds), h'.take h.length)
      | some (some (.dic es)) => if rm = true then some (.ref h.length, h'.take h.length ++ [some (.dic es)]) else some (.dat (.dict es), h'.take h.length)
      | some (some (.dit es)) => if rm = true then some (.ref h.length, h'.take h.length ++ [some (.dit es)]) else none
      | _ => none
    | .pack _ => none
    | .lock _ => none
    | w => some (w, h'.take h.length)
  else none
def fnM (rm : Bool) (np nl : Nat) (body : SM) : FM := fun ws h => if ws.length = np then match body (ws.map some ++ List.replicate (nl - np) none) h with
    | some (.rt w, h') => leave rm h w h'
    | some (.nx _, h') => leave rm h (.dat .none) h'
    | _ => none
  else none
def spD (m : FM) : Sp := fun vs H Q _ => ∃ M h ws, Rep M H h ∧ RVs M H vs ws ∧ Cont RV (m ws h) M H Q
end DL
set_option maxRecDepth 100000
set_option maxHeartbeats 400000
namespace DL
open PySem PySem.Spec PyProof.Rows L2
variable [HW]
theorem live_get0 {h h' : Hh} (e : live (h'.take h.length) = live h) {i : Nat} (hi : i < h.length) : (h'[i]?).map (Option.map MO.refs) = (h[i]?).map (Option.map MO.refs) := by
  have := congrArg (fun l => l[i]?) e
  simp only [live, List.getElem?_map] at this
  rw [List.getElem?_take_of_lt hi] at this
  exact this
theorem RO.lt {M : Mm} {H : Hp} {a : Addr} {m : MO} (r : RO M H a m) : ∀ n ∈ m.refs, n < M.m.length := fun n z => by
  cases m with
  | obj C fs => obtain ⟨dx, gs, h, r⟩ := r; exact r.lt n z
  | _ => cases z
theorem live_get {h h' : Hh} (e : live (h'.take h.length) = live h) {i : Nat} (hi : i < h.length) : (h'[i]?).map Option.isSome = (h[i]?).map Option.isSome := by
  have h0 : (h'[i]?).map (Option.map MO.refs) = (h[i]?).map (Option.map MO.refs) := live_get0 e hi
  have h1 := congrArg (Option.map Option.isSome) h0
  simpa [Option.map_map, Function.comp_def] using h1
section
variable {M M' : Mm} {H H' : Hp} {h h' : Hh}
theorem leave_same (x : Ext M M' H H') (r : Rep M H h) (r' : Rep M' H' h') (e : live (h'.take h.length) = live h) {i : Nat} {a : Addr} (q : M.m[i]? = some (some a)) : M'.m[i]? = some (some a) := by
  have hi := lt_of_get q
  rcases x.kill i hi with k | k
  · rw [k]; exact q
  · have d := r'.dead i k
    obtain ⟨o, ho, _⟩ := r.at_ i a q
    have l := live_get e (i := i) (by rw [← r.len]; exact hi)
    rw [d, ho] at l
    cases l
theorem leave_has (x : Ext M M' H H') (u : M'.u = M.u) (r : Rep M H h) (r' : Rep M' H' h') (e : live (h'.take h.length) = live h) : ∀ b, M.Has b → M'.Has b := fun b z => by
  rcases z with z | z
  · exact .inl (by rw [u]; exact z)
  · obtain ⟨i, hi, q⟩ := List.getElem_of_mem z
    exact .inr (List.mem_of_getElem? (leave_same x r r' e (i := i) (by rw [List.getElem?_eq_getElem hi, q])))
theorem leave_k (x : Ext M M' H H') (r : Rep M H h) (r' : Rep M' H' h') (e : live (h'.take h.length) = live h) {i : Nat} {a : Addr} {o : MO} (q : M.m[i]? = some (some a)) (ho : h'[i]? = some (some o)) : ∀ n ∈ o.refs, ∀ z, M'.m[n]? = some z → M.m[n]? = some z ∨ M.m[n]? = some none := fun n hn z hz => by
  obtain ⟨o0, ho0, ro⟩ := r.at_ i a q
  have l := live_get0 e (i := i) (by rw [← r.len]; exact lt_of_get q)
  rw [ho, ho0] at l
  simp only [Option.map_some, Option.some.injEq] at l
  rw [l] at hn
  have hlt := ro.lt n hn
  cases y : M.m[n] with
  | none => exact .inr (by rw [List.getElem?_eq_getElem hlt, y])
  | some b =>
    have e1 : M.m[n]? = some (some b) := by rw [List.getElem?_eq_getElem hlt, y]
    have e2 := leave_same x r r' e e1
    rw [hz] at e2
    exact .inl (by rw [e1, e2])
theorem leave_rep (x : Ext M M' H H') (u : M'.u = M.u) (r : Rep M H h) (r' : Rep M' H' h') (e : live (h'.take h.length) = live h) : Rep M H' (h'.take h.length) := by
  have hl : (h'.take h.length).length = h.length := by
    have := congrArg List.length e
    simpa [live] using this
  refine ⟨fun a z => ?_, by rw [hl]; exact r.len, r.inj, fun i a q => ?_, fun i q => ?_⟩
  · obtain ⟨h1, o, h2, ht⟩ := r.us a z
    exact ⟨h1, o, x.stab a o h2 h1, ht⟩
  · obtain ⟨o, ho, ro⟩ := r'.at_ i a (leave_same x r r' e q)
    exact ⟨o, by rw [List.getElem?_take_of_lt (by rw [← r.len]; exact lt_of_get q)]; exact ho, ro.sub (leave_has x u r r' e) (leave_k x r r' e q ho)⟩
  · have hi : i < h.length := by rw [← r.len]; exact lt_of_get q
    have l := live_get e hi
    rw [r.dead i q] at l
    rw [List.getElem?_take_of_lt hi]
    cases z : h'[i]? with
    | none => rw [z] at l; cases l
    | some o =>
      rw [z] at l
      cases o with
      | none => rfl
      | some _ => cases l
theorem leave_ext (x : Ext M M' H H') : ExtE M M H H' := ⟨rfl, x.trk, x.stab, fun _ m => .inl m, Nat.le_refl _, fun _ _ => rfl⟩
theorem leave_out (x : Ext M M' H H') (u : M'.u = M.u) (r : Rep M H h) (r' : Rep M' H' h') (e : live (h'.take h.length) = live h) {n : Nat} {a : Addr} (hn : ¬ n < h.length) (q : M'.m[n]? = some (some a)) : ¬ M.Has a := fun z => by
  rcases z with z | z
  · exact (r'.us a (by rw [u]; exact z)).1 (List.mem_of_getElem? q)
  · obtain ⟨i, hi, qi⟩ := List.getElem_of_mem z
    have q' := leave_same x r r' e (i := i) (by rw [List.getElem?_eq_getElem hi, qi])
    have := r'.inj i n a q' q
    rw [r.len] at hi
    omega
theorem leave_mut (x : Ext M M' H H') (u : M'.u = M.u) (r : Rep M H h) (r' : Rep M' H' h') (e : live (h'.take h.length) = live h) {n : Nat} {a : Addr} {o : MO} (hn : ¬ n < h.length) (q : M'.m[n]? = some (some a)) (ho : h'[n]? = some (some o)) (hr : o.refs = [] := by rfl) :
    Rep ⟨M.u, M.m ++ [some a]⟩ H' (h'.take h.length ++ [some o]) ∧ ExtE M ⟨M.u, M.m ++ [some a]⟩ H H' := by
  have out := leave_out x u r r' e hn q
  obtain ⟨o', ho', ro⟩ := r'.at_ n a q
  rw [ho] at ho'; cases ho'
  have R := leave_rep x u r r' e
  have hsub : ∀ b, Mm.Has ⟨a :: M.u, M.m⟩ b → M'.Has b := fun b z => by
    rcases z with z | z
    · rcases List.mem_cons.mp z with rfl | z
      · exact .inr (List.mem_of_getElem? q)
      · exact .inl (by rw [u]; exact z)
    · exact leave_has x u r r' e b (.inr z)
  have R2 : Rep ⟨a :: M.u, M.m⟩ H' (h'.take h.length) := by
    refine ⟨fun b z => ?_, R.len, R.inj, fun i b z => ?_, R.dead⟩
    · rcases List.mem_cons.mp z with rfl | z
      · exact ⟨fun y => out (.inr y), ro.kind⟩
      · exact R.us b z
    · obtain ⟨w, hw, rw'⟩ := r'.at_ i b (leave_same x r r' e z)
      exact ⟨w, by rw [List.getElem?_take_of_lt (by rw [← r.len]; exact lt_of_get z)]; exact hw, rw'.sub hsub (leave_k x r r' e z hw)⟩
  refine ⟨R2.owned (fun y => out (.inl y)) (ro.sub hsub (fun k hk => by rw [hr] at hk; cases hk)), ⟨rfl, x.trk, x.stab, fun b z => ?_, by simp, fun i hi => List.getElem?_append_left hi⟩⟩
  rcases List.mem_append.mp z with z | z
  · exact .inl z
  · have : b = a := by simpa using z
    subst this
    exact x.fresh b (List.mem_of_getElem? q)
theorem leave_ok {rm : Bool} {w : W} {v : V} {Q : VK} (x : Ext M M' H H') (u : M'.u = M.u) (r : Rep M H h) (r' : Rep M' H' h') (rv : RV M' H' v w) (c : Cont RV (leave rm h w h') M H Q) : Q v H' := by
  unfold leave at c
  split at c
  · rename_i e
    have sub := leave_has x u r r' e
    have R := leave_rep x u r r' e
    split at c
    · rename_i n
      obtain ⟨a, ea, rfl⟩ := rv
      split at c
      · rename_i hn
        refine c.fin (leave_ext x) R ⟨a, ?_, rfl⟩
        rcases x.kill n (by rw [r.len]; exact hn) with k | k
        · rw [← k]; exact ea
        · rw [ea] at k; cases k
      · rename_i hn
        have out := leave_out x u r r' e hn ea
        obtain ⟨o, ho, ro⟩ := r'.at_ n a ea
        rw [ho] at c
        have hlen : M.m.length = (h'.take h.length).length := R.len
        have hl : (h'.take h.length).length = h.length := by
          have := congrArg List.length e
          simpa [live] using this
        cases o with
        | lst ds =>
          obtain ⟨xs, hx, q⟩ := ro
          cases rm with
          | false => exact c.fin (leave_ext x) R (RD.lst out hx (q.sub sub))
          | true =>
            obtain ⟨R2, x2⟩ := leave_mut x u r r' e hn ea ho
            exact c.fin x2 R2 ⟨a, by show (M.m ++ [some a])[h.length]? = _; rw [← hl, ← hlen]; simp, rfl⟩
        | dic ds =>
          obtain ⟨xs, hx, q⟩ := ro
          cases rm with
          | false => exact c.fin (leave_ext x) R (RD.dic out hx (q.sub sub))
          | true =>
            obtain ⟨R2, x2⟩ := leave_mut x u r r' e hn ea ho
            exact c.fin x2 R2 ⟨a, by show (M.m ++ [some a])[h.length]? = _; rw [← hl, ← hlen]; simp, rfl⟩
        | dit ds =>
          obtain ⟨xs, hx, q⟩ := ro
          cases rm with
          | false => exact c.no.elim
          | true =>
            obtain ⟨R2, x2⟩ := leave_mut x u r r' e hn ea ho
            exact c.fin x2 R2 ⟨a, by show (M.m ++ [some a])[h.length]? = _; rw [← hl, ← hlen]; simp, rfl⟩
        | tab q P => exact c.no.elim
        | ins C fs => exact c.no.elim
        | obj C fs => exact c.no.elim
        | los os => exact c.no.elim
    · exact c.no.elim
    · exact c.no.elim
    · rename_i w' hw hp hk
      cases w with
      | ref n => exact absurd rfl (hw n)
      | pack n => exact absurd rfl (hp n)
      | lock n => exact absurd rfl (hk n)
      | dat d => exact c.fin (leave_ext x) R (RD.sub sub rv)
      | ins C fs =>
        obtain ⟨a, dx, gs, e1, n, q, rf⟩ := rv
        exact c.fin (leave_ext x) R ⟨a, dx, gs, e1, fun z => n (sub a z), q, rf.to fun _ _ => RD.sub sub⟩
      | objs os => exact c.fin (leave_ext x) R (RWs.to (show RWs _ _ _ _ from rv) (fun b _ _ n z => n (sub b z)) (fun _ _ q _ _ => q) fun _ _ => RD.sub sub)
      | exc k C fs =>
        obtain ⟨a, d, gs, e1, r1⟩ := rv
        exact c.fin (leave_ext x) R ⟨a, d, gs, e1, r1.to (fun b _ _ n z => n (sub b z)) (fun _ _ q _ _ => q) fun _ _ => RD.sub sub⟩
      | scr ns =>
        obtain ⟨a, o, e1, n, q⟩ := rv
        exact c.fin (leave_ext x) R ⟨a, o, e1, fun z => n (sub a z), q⟩
  · exact c.no.elim
end
theorem rs_start {M : Mm} {H : Hp} {vs : List V} {ws : List W} (r : RVs M H vs ws) (n : Nat) : RS M H (ws.map some ++ List.replicate n none) (vs.map some ++ List.replicate n none) := by
  refine ⟨by simp [r.length], ?_⟩
  induction r with
  | nil =>
    intro i w e
    rw [List.map_nil, List.nil_append, List.getElem?_replicate] at e
    split at e <;> cases e
  | cons a t ih =>
    intro i w e
    cases i with
    | zero => simp at e; subst e; exact ⟨_, rfl, a⟩
    | succ i => exact ih i w (by simpa using e)
end DL
set_option maxRecDepth 100000
set_option maxHeartbeats 400000
namespace DL
open PySem PySem.Spec PyProof.Rows L2
variable [HW]
def dcL (k : TM) (t : BM) (fk fv : EM) (ρ : Env) : List D → List (D × D) → Hh → Option (List (D × D) × Hh)
  | [], es, h => some (es, h)
  | d :: ds, es, h => match k (.dat d) ρ h with
    | some ρ1 => obnd (t ρ1 h) fun b h2 => if b = true then obnd (fk ρ1 h2) fun w h3 => obnd (fv ρ1 h3) fun v h4 => match w, v with
        | .dat kd, .dat d' => match dKey kd with
          | some key => if es.length < sizeLine then dcL k t fk fv ρ ds (putK' es key d') h4 else none
          | none => none
        | _, _ => none
      else dcL k t fk fv ρ ds es h2
    | none => none
def fDc (m : Bool) (gi : IM) (k : TM) (t : BM) (fk fv : EM) (vs : List Nat) : EM := fun ρ h => obnd (gi ρ h) fun ds h1 => obnd (dcL k t fk fv (wipeE ρ vs) ds [] h1) fun es h2 => mkK m es h2
end DL
set_option maxRecDepth 100000
set_option maxHeartbeats 400000
namespace DL
open PySem PySem.Spec PyProof.Rows L2
variable [HW]
structure RG (k : Nat) (A : Around) : Prop where
  room : Room k A
  gd : A.guards = some []
theorem RG.mono {j k : Nat} {A : Around} (r : RG k A) (h : j ≤ k) : RG j A := ⟨r.room.mono h, r.gd⟩
structure FnG (P : Program) (w : World) (K : PySem.W.Frag) (mg : Str → Option Value) (base : Heap) (C : CXT) (k : Nat) (f : Addr) (fd : FuncData) (ps : List Str) (sp : Sp) : Prop where
  len : ∀ vs H Q E, sp vs H Q E → vs.length = ps.length
  run : ∀ (A : Around) (outer : List PySem.Env) (s : Shared) (H : Hp) (args : Args) (us : List Value) (vs : List V) (Q : VK) (E : XK), RG k A → Env0 P w K mg base A outer s H → BindsTo s fd args (ps.zip us) → Vals vs us →
    sp vs H Q E → codeAny (model P w) A (.call (.ref f) args) (CR C outer P w H s Q E) s
section
variable {P : Program} {w : World} {K : PySem.W.Frag} {mg : Str → Option Value} {base : Heap}
theorem fn_g0 {x qual : Str} {st : Stmt} {f : Addr} {fd : FuncData} {N ps : List Str} {k : Nat} {sp : Sp} (F : Fun K x qual st f fd) (S : FnScope N ps (defScope st)) (len : ∀ vs H Q E, sp vs H Q E → vs.length = ps.length)
    (hb : ∀ (cdv : Value), fd.code = cdv → ∀ (A : Around) (outer : List PySem.Env) (s : Shared) (H : Hp) (vs : List V) (Q : VK) (E : XK), RG k (A.deeper (envOfC qual (defScope st) s.heap.objs.size f cdv)) → sp vs H Q E →
      ∃ t, PSs (cxOf CX0 P w K mg base N qual (defScope st) f cdv A outer s H E).nox (defBody st) t ∧ t { nx := fun _ H' => Q .non H', rt := Q } (L2.start N vs) H) : FnG P w K mg base CX0 (k + 1) f fd ps sp := by
  obtain ⟨oc, od, kV, doc, pm, an, cdv, ct, osl, rfl, lk, hcd⟩ := F.ex
  constructor
  · exact len
  intro A outer s H args us vs Q E rg e0 bd vl q
  have kin : K.In s.heap := e0.mod.kin.keeps fun b o e => (e0.bs b o e).1
  have nl : s.heap.NoLimit := e0.mod.nolimit.keeps fun b o e => (e0.bs b o e).1
  have kinds : ∀ y ∈ ps.zip us, (defScope st).names.lookup y.1 = some .local ∨ ((defScope st).names.lookup y.1 = some .cell ∧ ((PySem.cellsFrom (s.heap.objs.size + 1) (defScope st).names []).lookup y.1).isSome = true) := by
    intro y hy
    have hp : y.1 ∈ ps := (List.of_mem_zip (show (y.1, y.2) ∈ ps.zip us from hy)).1
    rcases S.par y.1 hp with h | h
    · left; exact h
    · right; exact ⟨h, PySem.W.cellsFrom_some _ _ _ (.inl h)⟩
  apply codeAny_call_function rg.room.depth (kin _ _ lk) rfl S.co S.gen rfl (PySem.W.codeRec_of kin hcd)
  apply bd
  apply wpAny_newFunctionEnv_cells S.kind kinds
  intro env he s1 hx
  subst he
  constructor
  · exact nl.keeps hx.toInCall.keep
  apply codeAny_func
  obtain ⟨t, ht, hq⟩ := hb cdv rfl A outer s H vs Q E ⟨rg.room.deeper _, rg.gd⟩ q
  have I0 := inv_start (CX := CX0) (E := E) S rg.room.hd e0 (len _ _ _ _ q) vl hx
  apply wpAny_mono (ht.nox.run [] s1 _ H _ I0 hq)
  · intro fl s' hs
    cases fl
    case ret u => obtain ⟨v, σ', H', J, rv, q'⟩ := hs; exact ⟨v, H', J.os, J.bare, J.base, J.hok, rv, q'⟩
    case next => obtain ⟨σ', H', J, q'⟩ := hs; exact ⟨.non, H', J.os, J.bare, J.base, J.hok, rfl, q'⟩
    case brk => obtain ⟨_, _, _, q'⟩ := hs; exact q'.elim
    case cont => obtain ⟨_, _, _, q'⟩ := hs; exact q'.elim
  · intro e s' hs; exact hs
structure GD (P : Program) (w : World) (K : PySem.W.Frag) (mg : Str → Option Value) (base : Heap) (k : Nat) (x : Str) (st : Stmt) (ps : List Str) (m : FM) : Prop where
  ex : ∃ (f : Addr) (fd : FuncData), Fun K x x st f fd ∧ mg x = some (.ref f) ∧ FnG P w K mg base CX0 k f fd ps (spD m)
theorem fng_ok0 {x : Str} {st : Stmt} {f : Addr} {fd : FuncData} {N ps : List Str} {k : Nat} {body : SM} (rm : Bool) (F : Fun K x x st f fd) (S : FnScope N ps (defScope st))
    (hb : ∀ (cdv : Value), fd.code = cdv → ∀ (A : Around) (outer : List PySem.Env) (s : Shared) (H : Hp) (E : XK), RG k (A.deeper (envOfC x (defScope st) s.heap.objs.size f cdv)) → DSs (cxOf CX0 P w K mg base N x (defScope st) f cdv A outer s H E).nox (defBody st) body) :
    FnG P w K mg base CX0 (k + 1) f fd ps (spD (fnM rm ps.length N.length body)) := by
  refine fn_g0 F S (fun vs H Q E q => ?_) (fun cdv ec A outer s H vs Q E hr q => ?_)
  · obtain ⟨M, h, ws, rep, rv, c⟩ := q
    unfold fnM at c
    split at c
    · rename_i hl
      rw [rv.length]; exact hl
    · exact c.no.elim
  · obtain ⟨M, h, ws, rep, rv, c⟩ := q
    unfold fnM at c
    split at c
    · rename_i hl
      refine ⟨_, hb cdv ec A outer s H E hr, M, h, ws.map some ++ List.replicate (N.length - ps.length) none, rep, ?_, ?_⟩
      · have e : L2.start N vs = vs.map some ++ List.replicate (N.length - ps.length) none := by unfold L2.start; rw [rv.length, hl]
        rw [e]
        exact rs_start rv _
      · cases eb : body (ws.map some ++ List.replicate (N.length - ps.length) none) h with
        | none => rw [eb] at c; exact c.no.elim
        | some pr =>
          obtain ⟨o, h'⟩ := pr
          rw [eb] at c
          cases o with
          | nx ρ => exact fun M1 H1 σ u x1 r1 rs1 => leave_ok x1 u rep r1 (show RV M1 H1 .non (.dat .none) from .non) c
          | rt w => exact fun M1 H1 v u x1 r1 v1 => leave_ok x1 u rep r1 v1 c
          | bk ρ => exact c.no.elim
          | ct ρ => exact c.no.elim
    · exact c.no.elim
theorem fng_ok {x : Str} {st : Stmt} {f : Addr} {fd : FuncData} {N ps : List Str} {k : Nat} {body : SM} (rm : Bool) (F : Fun K x x st f fd) (S : FnScope N ps (defScope st))
    (hb : ∀ (cdv : Value) (A : Around) (outer : List PySem.Env) (s : Shared) (H : Hp) (E : XK), RG k (A.deeper (envOfC x (defScope st) s.heap.objs.size f cdv)) → DSs (cxOf CX0 P w K mg base N x (defScope st) f cdv A outer s H E).nox (defBody st) body) :
    FnG P w K mg base CX0 (k + 1) f fd ps (spD (fnM rm ps.length N.length body)) := fng_ok0 rm F S fun cdv _ => hb cdv
theorem gd_ok {x : Str} {st : Stmt} {f : Addr} {fd : FuncData} {N ps : List Str} {k : Nat} {body : SM} (rm : Bool) (F : Fun K x x st f fd) (hm : mg x = some (.ref f)) (S : FnScope N ps (defScope st))
    (hb : ∀ (cdv : Value) (A : Around) (outer : List PySem.Env) (s : Shared) (H : Hp) (E : XK), RG k (A.deeper (envOfC x (defScope st) s.heap.objs.size f cdv)) → DSs (cxOf CX0 P w K mg base N x (defScope st) f cdv A outer s H E).nox (defBody st) body) :
    GD P w K mg base (k + 1) x st ps (fnM rm ps.length N.length body) := ⟨f, fd, F, hm, fng_ok rm F S hb⟩
theorem GD.no {x : Str} {st : Stmt} {f : Addr} {fd : FuncData} {ps : List Str} {k : Nat} (F : Fun K x x st f fd) (hm : mg x = some (.ref f)) : GD P w K mg base k x st ps (fun _ _ => none) :=
  ⟨f, fd, F, hm, fun _ _ _ _ ⟨_, _, _, _, _, c⟩ => c.no.elim, fun _ _ _ _ _ _ _ _ _ _ _ _ _ ⟨_, _, _, _, _, c⟩ => c.no.elim⟩
end
section
variable {X : Cx} {k : Nat} {f : Addr} {fd : FuncData} {ps : List Str} {m : FM} {x : Str} {p pos : Pos} {e : Expr} {es : List Expr} {g : AM} {st : Stmt}
theorem run_g {sp : Sp} {pins : List (Addr × Obj)} {σ : L2.St} {H : Hp} {s : Shared} {Q : VK} {args : Args} {us : List Value} {vs : List V} (F : FnG X.prog X.w X.K X.mg X.base CX0 k f fd ps sp) (hr : RG k X.A)
    (I : Inv X pins σ H s) (hb : BindsTo s fd args (ps.zip us)) (r : Vals vs us) (h : sp vs H Q E0) : codeAny (model X.prog X.w) X.A (.call (.ref f) args) (fun r s' => match r with
      | .ok (.ret u) => EP X pins σ Q u s'
      | _ => False) s := by
  apply codeAny_mono (F.run X.A X.stack s H args us vs Q E0 hr I.env0 hb r h)
  intro r s' hq
  cases r with
  | error e => exact hq
  | ok fl =>
    cases fl with
    | ret u => exact I.after hq
    | next => exact hq
    | brk => exact hq
    | cont => exact hq
theorem d_call' (G : GD X.prog X.w X.K X.mg X.base k x st ps m) (hr : RG k X.A) (ha : DA X (e :: es) g)
    (hbd : ∀ (kV doc pm : Value) (an : Option Addr) (cdv ct : Value) (us : List Value), us.length = ps.length → bindArgs (PySem.W.fnOf x x (defArgs st) (defBody st) (defScope st) .none kV doc pm an cdv ct) ⟨us, []⟩ = pure (ps.zip us))
    (hg : Gl X x := by rfl)
    (hdb : (x == ("__debug__" : Str)) = false := by decide) (he : starEach (e :: es) X.env = (false, eval e X.env) :: starEach es X.env := by rfl) (hpl : (backTo pos (starEach es X.env)).any (·.1) = false := by rfl) : DE X (.Call (.Name x p) (e :: es) [] pos) (fA m g) := by
  obtain ⟨f, fd, F, hm, G⟩ := G.ex
  refine ⟨fun pins s σ H Q I q => ?_⟩
  obtain ⟨M, h, ρ, r, rs, c⟩ := q
  obtain ⟨ws, h1, e1, c1⟩ := Cont.bind (δ := Unit) c
  apply wpAny_Call_Name_kw
  apply ld_glob I hg hm _ hdb
  apply PySem.W.callWith_K (h₀ := X.base) I.ok.mod.kin F.kp _ he hpl
  refine thn (ha.run pos pins s σ H (fun vs H1 => spD m vs H1 Q E0) I ⟨M, h, ρ, r, rs, ws, h1, e1, fun M1 H1 vs x1 r1 v1 => ⟨M1, h1, ws, r1, v1, c1 M1 H1 x1⟩⟩) fun us s1 ⟨vs, H1, I1, rv, q⟩ => ⟨I1.kIn, ?_⟩
  have hl : us.length = ps.length := by rw [← rv.length]; exact G.len _ _ _ _ q
  apply wpAny_call
  have bd := (F.binds (ps := ps) hbd) s1 us I1.kIn (by simpa using hl)
  rw [List.append_nil] at bd
  apply codeAny_mono (run_g G hr I1 bd rv q)
  intro r s' hq
  cases r with
  | error e => exact hq.elim
  | ok fl =>
    cases fl with
    | ret u => exact hq
    | next => exact hq
    | brk => exact hq
    | cont => exact hq
def permL {α : Type} (is : List Nat) (ws : List α) : Option (List α) := (is.map fun i => ws[i]?).foldr (fun o r => match o, r with
    | some w, some l => some (w :: l)
    | _, _ => none) (some [])
def permM (is : List Nat) (m : FM) : FM := fun ws h => match permL is ws with
  | some l => m l h
  | none => none
def kwM (n : Nat) (is : List Nat) (m : FM) : FM := fun ws h => if ws.length = n then permM is m ws h else none
end
end DL
set_option maxRecDepth 100000
set_option maxHeartbeats 400000
namespace DL
open PySem PySem.Spec PyProof.Rows L2
variable [HW]
section
variable {X : Cx}
def revS (z : Str) : Str := ⟨z.cps.toList.reverse.toArray⟩
def backW (m : Bool) (w : W) (h : Hh) : Option (W × Hh) := match w with
  | .dat (.list ds) => mkL m ds.reverse h
  | .dat (.tuple ds) => some (.dat (.tuple ds.reverse), h)
  | .dat (.str z) => if z.length ≤ sizeLine then some (.dat (.str (revS z)), h) else none
  | .ref n => match lstAt h n with
    | some ds => mkL m ds.reverse h
    | none => none
  | _ => none
def fRev (m : Bool) (f : EM) : EM := fun ρ h => obnd (f ρ h) fun w h1 => backW m w h1
end
end DL
set_option maxRecDepth 100000
set_option maxHeartbeats 400000
namespace DL
open PySem PySem.Spec PyProof.Rows L2
variable [HW]
structure Bi (mg : Str → Option Value) : Prop where
  len : mg "len" = none
  abs : mg "abs" = none
  int : mg "int" = none
  max : mg "max" = none
  min : mg "min" = none
  all : mg "all" = none
  any : mg "any" = none
  sum : mg "sum" = none
  tuple : mg "tuple" = none
  list : mg "list" = none
  dict : mg "dict" = none
  sorted : mg "sorted" = none
  isinstance : mg "isinstance" = none
  str : mg "str" = none
  bool : mg "bool" = none
  range : mg "range" = none
  enumerate : mg "enumerate" = none
  zip : mg "zip" = none
  reversed : mg "reversed" = none
  repr : mg "repr" = none
  set : mg "set" = none
section
variable {X : Cx} {p pos : Pos} {e e2 : Expr} {es : List Expr} {g : AM} {f : EM}
theorem bt_int : bootBuiltins "int" = some (.type "int") := by decide +kernel
theorem bt_str : bootBuiltins "str" = some (.type "str") := by decide +kernel
theorem bt_list : bootBuiltins "list" = some (.type "list") := by decide +kernel
theorem bt_tuple : bootBuiltins "tuple" = some (.type "tuple") := by decide +kernel
theorem bt_bool : bootBuiltins "bool" = some (.type "bool") := by decide +kernel
theorem d_abs (hm : X.mg "abs" = none) (ha : DA X [e] g) (hg : Gl X "abs" := by rfl) (he : starEach [e] X.env = (false, eval e X.env) :: starEach [] X.env := by rfl) (hpl : (backTo pos (starEach [] X.env)).any (·.1) = false := by rfl) : DE X (.Call (.Name "abs" p) [e] [] pos) (fA absW g) :=
  d_callB call_abs s_abs hm (by decide +kernel) ha hg (by decide) (by decide) he hpl
theorem d_all (hc : X.calm = true) (hm : X.mg "all" = none) (ha : DA X [e] g) (hg : Gl X "all" := by rfl) (he : starEach [e] X.env = (false, eval e X.env) :: starEach [] X.env := by rfl) (hpl : (backTo pos (starEach [] X.env)).any (·.1) = false := by rfl) : DE X (.Call (.Name "all" p) [e] [] pos) (fA allW g) :=
  d_callB (cr_all hc) s_all hm (by decide +kernel) ha hg (by decide) (by decide) he hpl
theorem d_intC (hm : X.mg "int" = none) (ha : DA X [e] g) (hg : Gl X "int" := by rfl) (he : starEach [e] X.env = (false, eval e X.env) :: starEach [] X.env := by rfl) (hpl : (backTo pos (starEach [] X.env)).any (·.1) = false := by rfl) : DE X (.Call (.Name "int" p) [e] [] pos) (fA intC g) :=
  d_callT call_int1 s_intC hm bt_int ha hg (by decide) (by decide) he hpl
theorem d_list (m : Bool) (hm : X.mg "list" = none) (ha : DA X [e] g) (hg : Gl X "list" := by rfl) (he : starEach [e] X.env = (false, eval e X.env) :: starEach [] X.env := by rfl) (hpl : (backTo pos (starEach [] X.env)).any (·.1) = false := by rfl) : DE X (.Call (.Name "list" p) [e] [] pos) (fA (listW m) g) :=
  d_callT call_list_of (s_list m) hm bt_list ha hg (by decide) (by decide) he hpl
end
def noList (K : PySem.W.Frag) : Bool := K.all fun p => match p.2.cls with
  | .type "list" => false
  | _ => true
theorem lookup_mem {K : PySem.W.Frag} {a : Addr} {o : Obj} (e : K.lookup a = some o) : (a, o) ∈ K := by
  induction K with
  | nil => cases e
  | cons p r ih =>
    obtain ⟨b, u⟩ := p
    rw [List.lookup_cons] at e
    split at e
    · rename_i q
      have : a = b := by simpa using q
      cases e
      subst this
      exact List.mem_cons_self
    · exact List.mem_cons_of_mem _ (ih e)
end DL
set_option maxRecDepth 100000
set_option maxHeartbeats 1000000
namespace DL
open PySem PySem.Spec PyProof.Rows L2
variable [HW]
theorem enum_meets {v : Value} {o : Obj} {H : Heap → Prop} (B : Begins v o H) : Meets (Builtin.«enumerate.__new__» ⟨[.type "enumerate", v], []⟩) (fun _ R s => H s.heap ∧
    R (.ok (.ret (.ref (s.heap.push o).objs.size))) { s with heap := (s.heap.push o).push { cls := .type "enumerate", data := .fields #[.none, .bool false, .ref s.heap.objs.size, rawInt 0, .none, .none] } }) := by
  apply Meets.of_wp
  intro prog w A R s h
  obtain ⟨hp, g, d, tk, os⟩ := s
  obtain ⟨h1, h⟩ := h
  have hsub := sub_enumerate
  have it : ∀ {A' : Around} {E : Value → Shared → Prop} {Q : Value → Shared → Prop}, Q (.ref hp.objs.size) ⟨hp.push o, g, d, tk, os⟩ → wpAny (model prog w) A' (pyIter v) Q E ⟨hp, g, d, tk, os⟩ := by
    intro A' E Q q
    exact B.iter prog w _ _ ⟨hp, g, d, tk, os⟩ _ h1 q
  wp_walk using it
  apply wpAny_stack_any
  intro st
  apply wpAny_pure
  split
  · rename_i c _ _ _ _ _
    cases (c == Value.type "enumerate") <;> (wp_walk using it; exact ⟨_, rfl, h⟩)
  · wp_walk using it
    exact ⟨_, rfl, h⟩
section
variable {prog : Program} {w : World} {A : Around} {E : Value → Shared → Prop} {s : Shared}
theorem call_enumT {v : Value} {o : Obj} {H : Heap → Prop} {Q : Value → Shared → Prop} (B : Begins v o H) (h1 : H s.heap)
    (h : ∀ h', IsEnum h' (s.heap.objs.size + 1) s.heap.objs.size 0 .none → h'.get? s.heap.objs.size = some o → (∀ b o, s.heap.get? b = some o → h'.get? b = some o) → Q (.ref (s.heap.objs.size + 1)) { s with heap := h' }) :
    wpAny (model prog w) A (call (.type "enumerate") [v]) Q E s := by
  apply callType_new F.called_enumerate (by decide) (F.typeCall_enumerate_1 _) (F.newCall_enumerate_1 _) (fun obj => F.args_object_init_2 obj _) F.entry_enumerate_new (enum_meets B)
  refine ⟨h1, ?_⟩
  have hz : (s.heap.push o).objs.size = s.heap.objs.size + 1 := Heap.size_push ..
  show _ ∧ _
  rw [hz]
  have he : IsEnum ((s.heap.push o).push { cls := .type "enumerate", data := .fields #[.none, .bool false, .ref s.heap.objs.size, rawInt 0, .none, .none] }) (s.heap.objs.size + 1) s.heap.objs.size 0 .none := by
    have z := Heap.get?_push_size (s.heap.push o) (o := { cls := .type "enumerate", data := .fields #[.none, .bool false, .ref s.heap.objs.size, rawInt 0, .none, .none] }) rfl
    rw [hz] at z
    exact z
  exact ⟨⟨_, he, rfl⟩, h _ he (Heap.get?_push_of_some _ (Heap.get?_push_size _ B.free)) fun b o x => Heap.get?_push_of_some _ (Heap.get?_push_of_some _ x)⟩
end
def IteT (K : PySem.W.Frag) (a : Addr) : It :=
  ⟨fun i H => ∃ (xs : List V) (x : V), SqT K H a xs ∧ xs[i]? = some x, fun i H v H' => ∃ T x, v = .ref T ∧ H T = none ∧ H' = upd H T (.tup [.int (i : Nat), x]) ∧ ∀ xs, SqT K H a xs → xs[i]? = some x, fun i H => ∃ xs : List V, SqT K H a xs ∧ xs.length ≤ i⟩
theorem turn_enumT {P : Program} {w : World} {K : PySem.W.Frag} {elts : List Expr} {kk : Nat} {tpos : Pos} (a e it : Addr) :
    Turn P w K (.Tuple elts kk tpos) (IteT K a) [e, it] e (fun i h => (∃ old, IsEnum h e it ((i : Nat) : Int) old) ∧ h.IsTupleIter it a i ∧ e ≠ it ∧ a ≠ it ∧ e ≠ a) where
  mem := by simp
  obj := fun i h st b hb => by
    obtain ⟨⟨old, he⟩, ⟨o, ho, hc, hd⟩, _⟩ := st
    have e' : b = e ∨ b = it := by simpa using hb
    rcases e' with z | z
    · rw [z]; exact ⟨_, he, fun v q => nomatch q⟩
    · rw [z]; exact ⟨o, ho, fun v q => by rw [hd] at q; cases q⟩
  keep := fun i h h' st k => let ⟨⟨old, he⟩, hi, hne⟩ := st; ⟨⟨old, k e (by simp) _ he⟩, hi.at fun o q => k it (by simp) o q, hne⟩
  item := by
    intro X hP hw hK hc i pins s σ H E I hf st hg
    subst hP hw hK
    obtain ⟨⟨old, he⟩, hit, hne, hna, hea⟩ := st
    obtain ⟨xs, x, hq, hx⟩ := hg
    obtain ⟨its, rv, p, hz⟩ := I.tuple hq
    obtain ⟨u, hu, ru⟩ := rv.get hx
    have hel : e < s.heap.objs.size := Heap.lt_size he
    have hil : it < s.heap.objs.size := by obtain ⟨_, q, _⟩ := hit; exact Heap.lt_size q
    have hi : i < its.toArray.size := by
      have := (List.getElem?_eq_some_iff.mp hu).1
      simpa using this
    have DD := Draws.tuple (prog := X.prog) (w := X.w) (A := X.A.in1) (I.ok.hd hc) it a hna its.toArray
    apply wpAny_pyNext_enum_itemD DD he ⟨hit, p⟩ hi hne (by simp [hne, hea])
    intro x' h' tk hP ho hs hT hsz hk
    obtain ⟨hit', p'⟩ := hs
    have ex : x' = u := by
      have h2 : its[i]? = some x' := by simpa using hP
      rw [hu] at h2
      exact (Option.some.inj h2).symm
    subst ex
    refine ⟨_, rfl, wpAny_letOwnedTupleGo_enum (s := { s with heap := h', toks := tk + 1 }) ho fun h'' he' sb => ?_⟩
    have hT2 : h''.get? s.heap.objs.size = some { cls := .type "tuple", data := .seq #[.int i tk, x'] } := (sb.2 _ (Nat.ne_of_gt hel)).trans hT
    have new : ObjOk X.prog X.w (upd H s.heap.objs.size (.tup [.int (i : Nat), x])) h'' s.heap.objs.size (.tup [.int (i : Nat), x]) :=
      ⟨by show 2 ≤ sizeLine; decide, [.int i tk, x'], .cons ⟨_, rfl⟩ (.cons ru .nil), ⟨_, hT2, rfl, _, rfl⟩⟩
    have I1 : Inv X pins σ (upd H s.heap.objs.size (.tup [.int (i : Nat), x])) { s with heap := h'', toks := tk + 1 } := by
      apply I.turnedNew (ch := [e, it]) _ hf (Nat.le_refl _) new
      intro b ob hb q
      have h1 : b ≠ e := fun z => hb (by simp [z])
      have h2 : b ≠ it := fun z => hb (by simp [z])
      rw [sb.2 b h1]
      exact hk b ob h1 h2 q
    refine ⟨.ref s.heap.objs.size, _, I1, rfl, ⟨_, x, rfl, I.hok.fresh (Nat.le_refl _), rfl, fun ys hy => by rw [I.tuple_inj hy hq]; exact hx⟩, ⟨⟨x', ?_⟩, hit'.at fun o q => (sb.2 it (Ne.symm hne)).trans q, hne, hna, hea⟩, fun b hb => ?_⟩
    · have e1 : ((i + 1 : Nat) : Int) = (i : Int) + 1 := by omega
      rw [e1]; exact he'
    · have hb' : b < s.heap.objs.size := by
        have e' : b = e ∨ b = it := by simpa using hb
        rcases e' with z | z
        · rw [z]; exact hel
        · rw [z]; exact hil
      rw [upd_ne (Nat.ne_of_lt hb')]
      exact (hf b hb).1
  done := by
    intro X hP hw hK hc i pins s σ H E I hf st hg
    subst hP hw hK
    obtain ⟨⟨old, he⟩, hit, hne, hna, hea⟩ := st
    obtain ⟨xs, hq, hx⟩ := hg
    obtain ⟨its, rv, p, hz⟩ := I.tuple hq
    obtain ⟨f0, f1, f2, f3, f4, f5⟩ := hf it (by simp)
    have hl := rv.length
    unfold pyNext
    have hT : s.TypeIs (.ref e) "enumerate" := ⟨_, he, rfl⟩
    apply wpAny_bind
    apply wpAny_attempt
    apply wpAny_callSpecial?_slot (name := Str.ofString "__next__") hT F.slot_enumerate_next
    apply wpAny_call_entry F.slot_enumerate_next hT F.entry_enumerate_next _ (F.args_enumerate_next_1 _)
    show wpAny _ _ (field (.ref e) 2 >>= _) _ _ _
    apply wpAny_bind
    apply wpAny_field he rfl (x := .ref it) rfl
    apply wpAny_bind
    apply wpAny_nextOf_tuple_end (A := X.A.in1) (show X.A.in1.handled = none from I.ok.hd hc) hit p (by simp; omega)
    intro h' x he' hx'
    obtain ⟨o, ho, hc'⟩ := hx'
    refine wpAny_bind (wpAny_isInstance (T := "StopIteration") (b := true) ⟨o, ho, hc'⟩ isSubtype_stop ?_)
    apply wpAny_pure
    exact ⟨rfl, I.turned (t' := s.toks) (fun b o hb q => he' b o hb q) f0 f1 f3 f4 f5⟩
  self := fun A i s Q E st h => let ⟨⟨_, he⟩, _⟩ := st; wpAny_pyIter_enum he h
def iEnumT (K : PySem.W.Frag) (ta : TA) : TI := fun σ H R => ta σ H fun vs H1 => (∃ a xs, vs = [.ref a] ∧ SqL K H1 a xs ∧ R (Ite K a) H1) ∨ ∃ a xs, vs = [.ref a] ∧ SqT K H1 a xs ∧ H1 a ≠ none ∧ R (IteT K a) H1
theorem pi_enumT {X : Cx} {e : Expr} {ta : TA} {p pos tpos : Pos} {elts : List Expr} {kk : Nat} (hg : Gl X "enumerate") (hm : X.mg "enumerate" = none) (ha : PA X [e] ta) (hs : starEach [e] X.env = [(false, eval e X.env)] := by rfl) :
    PI X (.Tuple elts kk tpos) (.Call (.Name "enumerate" p) [e] [] pos) (iEnumT X.K ta) := by
  constructor
  intro pins s σ H R I h
  refine Call_ ?_
  apply ld_blt I hg hm boot_enumerate
  apply PyProof.Rows.callWith_type1 _ hs rfl
  refine thn (ha.run pos pins s σ H _ I h) fun us s1 ⟨vs, H1, I1, r1, q1⟩ => ?_
  rcases q1 with ⟨a, xs, ex, hq, q⟩ | ⟨a, xs, ex, hq, hn, q⟩
  · subst ex
    obtain rfl := Vals.ref1 r1
    obtain ⟨its, rv, p', hz⟩ := I1.list hq
    apply call_enumerate_list p'.isList
    intro h' he hit hsz hk
    apply wpAny_pyIter_enum he
    have I2 : Inv X pins σ H1 { s1 with heap := h' } := I1.kept (t' := s1.toks) hk
    refine ⟨s1.heap.objs.size + 1, [s1.heap.objs.size + 1, s1.heap.objs.size], _, _, H1, rfl, I2, turn_enum a (s1.heap.objs.size + 1) s1.heap.objs.size, ⟨⟨.none, he⟩, hit, Nat.succ_ne_self _⟩, fun b hb => ?_, q⟩
    have hle : s1.heap.objs.size ≤ b := by
      have e' : b = s1.heap.objs.size + 1 ∨ b = s1.heap.objs.size := by simpa using hb
      rcases e' with z | z
      · rw [z]; exact Nat.le_succ _
      · rw [z]; exact Nat.le_refl _
    exact I1.fpOk hle (I1.hok.fresh hle)
  · subst ex
    obtain rfl := Vals.ref1 r1
    obtain ⟨its, rv, p', hz⟩ := I1.tuple hq
    have hlt : a < s1.heap.objs.size := p'.lt
    apply call_enumT (begins_tuple a its.toArray) p'
    intro h' he hit hk
    apply wpAny_pyIter_enum he
    have I2 : Inv X pins σ H1 { s1 with heap := h' } := I1.kept (t' := s1.toks) hk
    refine ⟨s1.heap.objs.size + 1, [s1.heap.objs.size + 1, s1.heap.objs.size], _, _, H1, rfl, I2, turn_enumT a (s1.heap.objs.size + 1) s1.heap.objs.size, ⟨⟨.none, he⟩, ⟨_, hit, rfl, rfl⟩, Nat.succ_ne_self _, Nat.ne_of_lt hlt, Nat.ne_of_gt (Nat.lt_succ_of_lt hlt)⟩, fun b hb => ?_, q⟩
    have hle : s1.heap.objs.size ≤ b := by
      have e' : b = s1.heap.objs.size + 1 ∨ b = s1.heap.objs.size := by simpa using hb
      rcases e' with z | z
      · rw [z]; exact Nat.le_succ _
      · rw [z]; exact Nat.le_refl _
    exact I1.fpOk hle (I1.hok.fresh hle)
end DL
set_option maxRecDepth 100000
set_option maxHeartbeats 400000
namespace DL
open PySem PySem.Spec PyProof.Rows L2
variable [HW]
theorem itd_enumT {K : PySem.W.Frag} {M : Mm} {H : Hp} {a : Addr} {xs : List V} {ds : List D} (n : ¬ M.Has a) (ha : TupAt H a xs ds) (q : RDs M H xs ds) : ItD M H (IteT K a) (enumD 0 ds) := fun M1 H1 x tr => by
  have h1 := (ha.to fun _ z => x.st n z).sq (K := K)
  have q1 := q.mono x
  refine ⟨fun i d e => ?_, xs, h1, by rw [enumD_len, q.length]; exact Nat.le_refl _⟩
  obtain ⟨d', e1, rfl⟩ := enumD_get e
  obtain ⟨v, e2, r⟩ := q1.get e1
  refine ⟨⟨xs, v, h1, e2⟩, fun y H2 hy => ?_⟩
  obtain ⟨T, u, rfl, nT, rfl, hu⟩ := hy
  have eu : u = v := by
    have := hu xs h1
    rw [e2] at this
    exact (Option.some.inj this).symm
  subst eu
  refine ⟨same_new nT, RD.tup (new_out tr nT) (.inl ⟨rfl, upd_same⟩) ?_⟩
  rw [Nat.zero_add]
  exact .cons (.int _) (.cons (r.mono (grow_ext (same_new nT))) .nil)
def enumA (g : AM) : IM := fun ρ h => obnd (g ρ h) fun ws h1 => match ws with
  | [.dat (.list ds)] => some (enumD 0 ds, h1)
  | [.dat (.tuple ds)] => some (enumD 0 ds, h1)
  | _ => none
section
variable {X : Cx}
theorem di_enumA (hm : X.mg "enumerate" = none) {e : Expr} {elts : List Expr} {kk : Nat} {p pos tpos : Pos} {g : AM} (ha : DA X [e] g) (hg : Gl X "enumerate" := by rfl) (hs : starEach [e] X.env = [(false, eval e X.env)] := by rfl) : DI X (.Tuple elts kk tpos) (.Call (.Name "enumerate" p) [e] [] pos) (enumA g) := (pi_enumT hg hm ha hs).weak fun σ H R => by
  rintro ⟨M, h, ρ, ds, h', r, rs, e0, k⟩
  unfold enumA at e0
  cases eg : g ρ h with
  | none => rw [eg] at e0; cases e0
  | some pr =>
    obtain ⟨ws, h1⟩ := pr
    rw [eg] at e0
    simp only [obnd_some] at e0
    refine ⟨M, h, ρ, r, rs, ws, h1, eg, fun M1 H1 vs x1 r1 v1 => ?_⟩
    split at e0
    · cases e0
      obtain ⟨v, rfl, rv⟩ := rvs1 v1
      cases (show RD M1 H1 _ _ from rv) with
      | lst n e q => exact .inl ⟨_, _, rfl, .of e, k M1 H1 _ x1 r1 (itd_enum n e q)⟩
    · cases e0
      obtain ⟨v, rfl, rv⟩ := rvs1 v1
      cases (show RD M1 H1 _ _ from rv) with
      | tup n e q => exact .inr ⟨_, _, rfl, e.sq, (by obtain ⟨_, z⟩ := e.some_; rw [z]; exact nofun), k M1 H1 _ x1 r1 (itd_enumT n e q)⟩
    · cases e0
end
end DL
set_option maxRecDepth 100000
set_option maxHeartbeats 400000
namespace DL
open PySem PySem.Spec PyProof.Rows L2
variable [HW]
def moD : MO → D
  | .lst ds => .list ds
  | .dic es => .dict es
  | .dit es => .dict ((.none, .none) :: es)
  | .tab _ _ => .none
  | .ins _ _ => .none
  | .obj _ _ => .none
  | .los _ => .none
def isTab : MO → Bool
  | .tab _ _ => true
  | .ins _ _ => true
  | .obj _ _ => true
  | .los _ => true
  | .dit _ => true
  | _ => false
def isR (n : Nat) : Option W → Bool
  | some (.ref m) => decide (m = n)
  | some (.pack _) => true
  | _ => false
def frz (i : Nat) (ρ : Env) (h : Hh) : Option (Env × Hh) := match ρ[i]? with
  | some (some (.ref n)) => match h[n]? with
    | some (some o) => if ((ρ.set i none).any (isR n) || isTab o) = true then none else some (ρ.set i (some (.dat (moD o))), h.set n none)
    | _ => none
  | _ => none
def sFrz (i : Nat) (f : SM) : SM := fun ρ h => match frz i ρ h with
  | some (ρ', h') => f ρ' h'
  | none => none
section
variable {M : Mm} {H : Hp} {h : Hh}
theorem less_set {n : Nat} : ∀ b, Mm.Has ⟨M.u, M.m.set n none⟩ b → M.Has b := fun b z => by
  rcases z with z | z
  · exact .inl z
  · right
    rcases List.mem_or_eq_of_mem_set z with q | q
    · exact q
    · cases q
theorem not_set {n : Nat} {a : Addr} (rep : Rep M H h) (e : M.m[n]? = some (some a)) : ¬ Mm.Has ⟨M.u, M.m.set n none⟩ a := fun z => by
  rcases z with z | z
  · exact (rep.us a z).1 (List.mem_of_getElem? e)
  · obtain ⟨i, hi, q⟩ := List.getElem_of_mem z
    have q' : (M.m.set n none)[i]? = some (some a) := by rw [List.getElem?_eq_getElem hi, q]
    by_cases hn : n = i
    · subst hn
      have hi' : n < M.m.length := lt_of_get e
      rw [List.getElem?_set_self hi'] at q'
      cases q'
    · rw [List.getElem?_set_ne hn] at q'
      exact hn (rep.inj i n a q' e).symm
theorem ext_frz {n : Nat} : Ext M ⟨M.u, M.m.set n none⟩ H H where
  us := fun _ m => .inl m
  trk := fun a o e => ⟨o, e⟩
  stab := fun _ _ e _ => e
  fresh := fun a m => by
    rcases List.mem_or_eq_of_mem_set m with q | q
    · exact .inl q
    · cases q
  len := by simp
  kill := fun i hi => by
    by_cases hn : n = i
    · subst hn
      right
      show (M.m.set n none)[n]? = _
      rw [List.getElem?_set_self hi]
    · left
      show (M.m.set n none)[i]? = _
      rw [List.getElem?_set_ne hn]
theorem Rep.frz {n : Nat} {a : Addr} (rep : Rep M H h) (e : M.m[n]? = some (some a)) : Rep ⟨M.u, M.m.set n none⟩ H (h.set n none) := by
  have hn : n < h.length := by rw [← rep.len]; exact lt_of_get e
  refine ⟨fun b z => ?_, by simpa using rep.len, fun i j b q1 q2 => ?_, fun i b q => ?_, fun i q => ?_⟩
  · obtain ⟨h1, h2⟩ := rep.us b z
    refine ⟨fun y => h1 ?_, h2⟩
    rcases List.mem_or_eq_of_mem_set y with q | q
    · exact q
    · cases q
  · have g : ∀ (k : Nat), (M.m.set n none)[k]? = some (some b) → M.m[k]? = some (some b) := fun k q => by
      by_cases hk : n = k
      · subst hk
        rw [List.getElem?_set_self (lt_of_get e)] at q
        cases q
      · rwa [List.getElem?_set_ne hk] at q
    exact rep.inj i j b (g i q1) (g j q2)
  · have hk : n ≠ i := fun z => by
      subst z
      have q' : (M.m.set n none)[n]? = some (some b) := q
      rw [List.getElem?_set_self (lt_of_get e)] at q'
      cases q'
    have q' : M.m[i]? = some (some b) := by
      have z : (M.m.set n none)[i]? = some (some b) := q
      rwa [List.getElem?_set_ne hk] at z
    obtain ⟨o, ho, ro⟩ := rep.at_ i b q'
    exact ⟨o, by rw [List.getElem?_set_ne hk]; exact ho, ro.sub less_set fun k _ z q => by
      by_cases y : n = k
      · subst y; exact .inr (List.getElem?_set_self (List.getElem?_eq_some_iff.mp q).1)
      · exact .inl (by rw [List.getElem?_set_ne y]; exact q)⟩
  · have q' : (M.m.set n none)[i]? = some none := q
    by_cases hk : n = i
    · subst hk
      rw [List.getElem?_set_self hn]
    · rw [List.getElem?_set_ne hk] at q' ⊢
      exact rep.dead i q'
theorem RS.frz {n i : Nat} {a : Addr} {o : MO} {ρ : Env} {σ : L2.St} (rep : Rep M H h) (rs : RS M H ρ σ) (e : M.m[n]? = some (some a)) (er : ρ[i]? = some (some (.ref n))) (ro : RO M H a o) (hn : ¬ ((ρ.set i none).any (isR n)) = true) (ht : isTab o = false) :
    RS ⟨M.u, M.m.set n none⟩ H (ρ.set i (some (.dat (moD o)))) σ := by
  refine ⟨by simp [rs.1], fun j w q => ?_⟩
  by_cases hj : i = j
  · subst hj
    rw [List.getElem?_set_self (lt_of_get er)] at q
    cases q
    obtain ⟨v, ev, a', ea, rfl⟩ := rs.2 i _ er
    rw [e] at ea
    cases ea
    refine ⟨_, ev, ?_⟩
    cases o with
    | lst ds => obtain ⟨xs, hx, qx⟩ := ro; exact RD.lst (not_set rep e) hx (qx.sub less_set)
    | dic ds => obtain ⟨xs, hx, qx⟩ := ro; exact RD.dic (not_set rep e) hx (qx.sub less_set)
    | dit ds => exact absurd ht (by simp [isTab])
    | tab q P => exact absurd ht (by simp [isTab])
    | ins C fs => exact absurd ht (by simp [isTab])
    | obj C fs => exact absurd ht (by simp [isTab])
    | los os => exact absurd ht (by simp [isTab])
  · rw [List.getElem?_set_ne hj] at q
    obtain ⟨v, ev, rv⟩ := rs.2 j w q
    refine ⟨v, ev, ?_⟩
    cases w with
    | dat d => exact RD.sub less_set rv
    | ins C fs =>
      obtain ⟨b, u, gs, e1, n1, q1, r1⟩ := rv
      exact ⟨b, u, gs, e1, fun z => n1 (less_set b z), q1, r1.to fun _ _ => RD.sub less_set⟩
    | objs os => exact RWs.to (show RWs _ _ _ _ from rv) (fun b _ _ n z => n (less_set b z)) (fun _ _ q _ _ => q) fun _ _ => RD.sub less_set
    | exc k C fs =>
      obtain ⟨b, d, gs, e1, r1⟩ := rv
      exact ⟨b, d, gs, e1, r1.to (fun c _ _ n z => n (less_set c z)) (fun _ _ q _ _ => q) fun _ _ => RD.sub less_set⟩
    | pack its =>
      exact absurd (List.any_eq_true.mpr ⟨some (.pack its), List.mem_of_getElem? (i := j) (by rw [List.getElem?_set_ne hj]; exact q), rfl⟩) hn
    | lock es =>
      obtain ⟨b, u, kvs, e1, n1, q1, r1⟩ := rv
      exact ⟨b, u, kvs, e1, fun z => n1 (less_set b z), q1, r1.sub less_set⟩
    | scr ns =>
      obtain ⟨b, u, e1, n1, q1⟩ := rv
      exact ⟨b, u, e1, fun z => n1 (less_set b z), q1⟩
    | ref k =>
      obtain ⟨b, eb, rfl⟩ := rv
      have hk : n ≠ k := fun z => by
        subst z
        apply hn
        rw [List.any_eq_true]
        refine ⟨some (.ref n), ?_, by simp [isR]⟩
        exact List.mem_of_getElem? (i := j) (by rw [List.getElem?_set_ne hj]; exact q)
      exact ⟨b, by show (M.m.set n none)[k]? = _; rw [List.getElem?_set_ne hk]; exact eb, rfl⟩
end
theorem ds_frz {X : Cx} {sts : List Stmt} {f : SM} (i : Nat) (hd : DSs X sts f) : DSs X sts (sFrz i f) := PSs.weak hd fun D σ H => by
  rintro ⟨M, h, ρ, rep, rs, p⟩
  unfold sFrz at p
  split at p
  · rename_i ρ' h' ef
    unfold frz at ef
    split at ef
    · rename_i n er
      split at ef
      · rename_i o eo
        split at ef
        · cases ef
        · rename_i hn
          cases ef
          obtain ⟨v, ev, a, ea, rfl⟩ := rs.2 i _ er
          obtain ⟨o', ho', ro⟩ := rep.at_ n a ea
          rw [eo] at ho'
          cases ho'
          simp only [Bool.or_eq_true, not_or, Bool.not_eq_true] at hn
          exact ⟨_, _, _, rep.frz ea, rs.frz rep ea er ro (by simpa using hn.1) hn.2, p.mono rfl ext_frz⟩
      · cases ef
    · cases ef
  · exact p.elim
end DL
set_option maxRecDepth 100000
set_option maxHeartbeats 1000000
namespace DL
open PySem PySem.Spec PyProof.Rows L2
variable [HW]
end DL
set_option maxRecDepth 100000
set_option maxHeartbeats 1000000
namespace DL
open PySem PySem.Spec PyProof.Rows L2
variable [HW]
end DL
set_option maxRecDepth 100000
set_option maxHeartbeats 1000000
namespace DL
open PySem PySem.Spec PyProof.Rows L2
variable [HW]
end DL
set_option maxRecDepth 100000
set_option maxHeartbeats 1000000
namespace DL
open PySem PySem.Spec PyProof.Rows L2
variable [HW]
theorem law_gT {P : Program} {w : World} {K : PySem.W.Frag} {mg mb : Str → Option Value} {k : Nat} {fa a : Addr} {fd : FuncData} {x : Str} {sp : Sp} {s₁ : Shared} {vs : List Value} {ns : List Int} {cs : List (Addr × Addr)}
    (kx : K.In s₁.heap) (hns : s₁.heap.Ns mainGlobals mg) (hb : s₁.heap.Ns builtinsNs mb) (hbb : ∀ x : Str, x ≠ "__name__" → mb x = bootBuiltins x) (hlim : s₁.heap.NoLimit) (hg : s₁.gens = #[])
    (hT : ∀ p ∈ cs, PySem.W.CodeHd s₁.heap p.1 p.2 ∧ s₁.heap.get? p.2 = some { cls := .none, data := .fields #[] }) (nT : ∀ p ∈ cs, K.lookup p.2 = none)
    (hbm : ∃ (bm : Addr) (ob : Obj), mg "__builtins__" = some (.ref bm) ∧ bm ≠ builtinsNs ∧ s₁.heap.get? bm = some ob ∧ ob.cls = .type "module" ∧ ob.dict = some builtinsNs ∧ ob.data = .plain)
    (ha : s₁.heap.get? a = some { cls := .type "list", data := .seq vs.toArray }) (hi : IntsAre vs ns) (hl : ns.length ≤ sizeLine) (hr : Room k callerA)
    (F : ∀ base : Heap, K.In base → base.Ns mainGlobals mg → (∀ p ∈ cs, LamX.TabB base mg p.1 p.2) → FnG P w K mg base CX0 k fa fd [x] sp) (hbind : ∀ (s : Shared) (u : Value), BindsTo s fd ⟨[u], []⟩ [(x, u)])
    (hka : K.lookup a = none)
    (hsp : ∀ H : Hp, (∃ o, H a = some (.frz o (.lst (ns.map V.int)))) → (∀ p ∈ cs, H p.2 = some (.tbl #[])) → a ∉ cs.map (·.2) → sp [.ref a] H (fun v _ => v = .bl true) fun _ _ _ => False) :
    codeAny (model P w) callerA (.call (.ref fa) ⟨[.ref a], []⟩) (fun r s' => r = .ok (.ret (.bool true)) ∧ OldK s₁.heap s'.heap ∧ s'.os = s₁.os ∧ AllBare s'.gens) s₁ := by
  have rv := vals_ints hi
  let ob : Obj := { cls := .type "list", data := .seq vs.toArray }
  let H : Hp := fun b => if b = a then some (.frz ob (.lst (ns.map V.int))) else if b ∈ cs.map (·.2) then some (.tbl #[]) else none
  have tabs : ∀ b, b ∈ cs.map (·.2) → s₁.heap.get? b = some { cls := .none, data := .fields #[] } := fun b z => by
    obtain ⟨p, hp, rfl⟩ := List.mem_map.mp z
    exact (hT p hp).2
  have na : a ∉ cs.map (·.2) := fun z => by
    have y := tabs a z
    rw [ha] at y
    injection y with y
    injection y with _ _ y
    cases y
  have Ha : H a = some (.frz ob (.lst (ns.map V.int))) := if_pos rfl
  have Hc : ∀ b, b ∈ cs.map (·.2) → H b = some (.tbl #[]) := fun b z => by
    have h1 : b ≠ a := fun y => na (y ▸ z)
    show (if b = a then _ else if b ∈ cs.map (·.2) then _ else _) = _
    rw [if_neg h1, if_pos z]
  have Hn : ∀ b, b ≠ a → b ∉ cs.map (·.2) → H b = none := fun b h1 h2 => by
    show (if b = a then _ else if b ∈ cs.map (·.2) then _ else _) = _
    rw [if_neg h1, if_neg h2]
  have hok : HOk P w H s₁.heap := by
    intro b u e
    by_cases h : b = a
    · subst h
      rw [Ha] at e
      cases e
      exact ⟨ha, by rw [List.length_map]; exact hl, vs, _, rv, ha⟩
    · by_cases h2 : b ∈ cs.map (·.2)
      · rw [Hc b h2] at e
        cases e
        exact tabs b h2
      · rw [Hn b h h2] at e; cases e
  have hid : ∀ {b : Addr} {o : Obj}, s₁.heap.get? b = some o → H b = none → (hidT s₁.heap H).get? b = some o := fun e n => hidT_get e n
  have free : ∀ {b : Addr} {o : Obj}, s₁.heap.get? b = some o → (∀ vs n, o.data ≠ .seq vs n) → o.data ≠ .fields #[] → H b = none := by
    intro b o e h1 h2
    apply Hn
    · intro z
      subst z
      rw [ha] at e
      cases e
      exact h1 _ _ rfl
    · intro z
      rw [tabs b z] at e
      cases e
      exact h2 rfl
  have isd : ∀ {b : Addr} {o : Obj} {es : Array DictEntry} {ep : Nat}, s₁.heap.get? b = some o → o.data = .dict es ep → H b = none := by
    intro b o es ep e d
    apply free e
    · intro vs n z; rw [d] at z; cases z
    · intro z; rw [d] at z; cases z
  have nsk : ∀ {b : Addr} {m : Str → Option Value}, s₁.heap.Ns b m → (hidT s₁.heap H).Ns b m := fun {b m} q => by
    obtain ⟨o, es, ep, e, d, r⟩ := q
    exact ⟨o, es, ep, hid e (isd e d), d, r⟩
  have kb : K.In (hidT s₁.heap H) := by
    intro b o e
    apply hid (kx b o e)
    apply Hn
    · intro z
      subst z
      rw [hka] at e
      cases e
    · intro z
      obtain ⟨p, hp, rfl⟩ := List.mem_map.mp z
      rw [nT p hp] at e
      cases e
  have hM : Mod K mg (hidT s₁.heap H) := by
    refine ⟨kb, nsk hns, ⟨mb, nsk hb, hbb⟩, ?_⟩
    obtain ⟨mc, h1, h2⟩ := hlim
    exact ⟨mc, nsk h1, h2⟩
  have TB : ∀ p ∈ cs, LamX.TabB (hidT s₁.heap H) mg p.1 p.2 := by
    intro p hp
    obtain ⟨hc, ht⟩ := hT p hp
    constructor
    · obtain ⟨o, us, fi, tf, fl, tg, inF, tx, tt, e1, e2, e3, e4, r⟩ := hc
      refine ⟨o, us, fi, tf, fl, tg, inF, tx, tt, hid e1 (free e1 ?_ ?_), e2, e3, e4, r⟩
      · intro vs n z; rw [e3] at z; cases z
      · intro z
        rw [e3] at z
        injection z with z
        rw [z] at e4
        simp at e4
    · obtain ⟨bm, ob', b1, b2, b3, b4, b5, b6⟩ := hbm
      have n1 : bm ≠ mainGlobals := by
        intro z
        obtain ⟨o, es, ep, e, hd, _⟩ := hns
        rw [z, e] at b3
        cases b3
        rw [hd] at b6
        cases b6
      have n2 : bm ≠ p.2 := by
        intro z
        rw [z, ht] at b3
        cases b3
        cases b6
      refine ⟨bm, ob', b1, b2, n1, n2, hid b3 (free b3 ?_ ?_), b4, b5, b6⟩
      · intro vs n z; rw [b6] at z; cases z
      · intro z; rw [b6] at z; cases z
    · intro z
      obtain ⟨o, es, ep, e, hd, _⟩ := hns
      rw [z, ht] at e
      cases e
      cases hd
  have e0 : Env0 P w K mg (hidT s₁.heap H) callerA [] s₁ H := by
    refine ⟨rfl, hM, fun b o e => of_hidT e, Nat.le_of_eq (hidT_size _ _), trivial, fun b hb => ?_, hok, .of_eq hg⟩
    exact absurd (show b ∈ ([] : List Addr) from hb) (by simp)
  apply codeAny_mono ((F _ kb (nsk hns) TB).run callerA [] s₁ H ⟨[.ref a], []⟩ [.ref a] [.ref a] _ _ ⟨hr, rfl⟩ e0 (hbind s₁ (.ref a)) (.cons rfl .nil) (hsp H ⟨ob, Ha⟩ (fun p hp => Hc p.2 (List.mem_map.mpr ⟨p, hp, rfl⟩)) na))
  intro r s' h
  cases r with
  | error e => exact h.elim
  | ok fl => cases fl with
    | next => exact h.elim
    | brk => exact h.elim
    | cont => exact h.elim
    | ret u =>
      obtain ⟨v, H', os, bare, un, hok', r', q⟩ := h
      obtain rfl : v = .bl true := q
      obtain rfl : u = Value.bool true := r'
      have key : ∀ b o, b ∉ cs.map (·.2) → s₁.heap.get? b = some o → s'.heap.get? b = some o := by
        intro b o nb e
        by_cases hb' : b = a
        · subst hb'
          have z2 := un.frzs b ob _ Ha
          obtain ⟨e1, _⟩ := hok b _ Ha
          obtain ⟨e2, _⟩ := hok' b _ z2
          rw [e] at e1
          cases e1
          exact e2
        · exact un.keep b o e (Hn b hb' nb) (fun z => absurd (show b ∈ ([] : List Addr) from z) (by simp)) (by simp)
      have grown : ∀ p ∈ cs, ∃ more : Array Value, s'.heap.get? p.2 = some { cls := .none, data := .fields more } := by
        intro p hp
        obtain ⟨more, z⟩ := un.tbls p.2 #[] (Hc p.2 (List.mem_map.mpr ⟨p, hp, rfl⟩))
        exact ⟨_, hok' p.2 _ z⟩
      refine ⟨rfl, ⟨fun b o e => ?_, fun b o e => ?_⟩, os, bare⟩
      · by_cases hb' : b ∈ cs.map (·.2)
        · obtain ⟨p, hp, rfl⟩ := List.mem_map.mp hb'
          obtain ⟨more, hm⟩ := grown p hp
          rw [(hT p hp).2] at e
          cases e
          exact .inr (.inl ⟨((hT p hp).1.tab (hT p hp).2).isCodeTable, rfl, #[], more, rfl, by rw [Array.empty_append]; exact hm⟩)
        · exact .inl (key b o hb' e)
      · by_cases hb' : b ∈ cs.map (·.2)
        · obtain ⟨p, hp, rfl⟩ := List.mem_map.mp hb'
          obtain ⟨more, hm⟩ := grown p hp
          exact ⟨_, hm⟩
        · exact ⟨o, key b o hb' e⟩
end DL
set_option maxRecDepth 100000
set_option maxHeartbeats 1000000
namespace DL
open PySem PySem.Spec PyProof.Rows L2
variable [HW]
end DL
set_option maxRecDepth 100000
set_option maxHeartbeats 1000000
namespace DL
open PySem PySem.Spec PyProof.Rows L2
variable [HW]
end DL
set_option maxRecDepth 100000
set_option maxHeartbeats 1000000
namespace DL
open PySem PySem.Spec PyProof.Rows L2
variable [HW]
section
variable {X : Cx}
def leT (a b : Str) : Bool := decide (a.cps.toList ≤ b.cps.toList)
theorem leT_anti {a b : Str} (h1 : leT a b = true) (h2 : leT b a = true) : a = b := by
  unfold leT at *
  simp only [decide_eq_true_eq] at *
  have e := List.le_antisymm h1 h2
  obtain ⟨⟨x⟩⟩ := a
  obtain ⟨⟨y⟩⟩ := b
  simp at e
  rw [e]
end
end DL
set_option maxRecDepth 100000
set_option maxHeartbeats 4000000
namespace DL
open PySem PySem.Spec PyProof.Rows L2
variable [HW]
section
variable {P : Program} {w : World}
structure TxR (P : Program) (w : World) (B : Froz.SD) (l : List Str) : Prop where
  ok : Froz.TxOk P w B l
  ris : Ris B.2.2.place.toList
  led : w.params.followText "set-order" = true ∨ B.2.2.led = true
theorem tail_ris {ep : Nat} {es : Array (Int × Value)} {t : SetTable} {b : Bool} (r : Ris t.place.toList) : Ris (Froz.tailTx ep es t b).2.2.place.toList := by
  unfold Froz.tailTx
  split
  · exact relayAll_ris _ _ _
  · exact r
theorem tail_led {ep : Nat} {es : Array (Int × Value)} {t : SetTable} {b : Bool} : (Froz.tailTx ep es t b).2.2.led = t.led := by
  unfold Froz.tailTx
  split
  · exact relayAll_led _ _ _
  · rfl
theorem TxR.add {B : Froz.SD} {l : List Str} {k : Str} (u : Tok) (F : TxR P w B l) : TxR P w (Froz.addTx (hashStr w k) (.str k u) B) (k :: l) := by
  refine ⟨Froz.add_ok u F.ok, ?_, ?_⟩
  · have r1 := layNew_ris B.2.2 B.1 (hashStr w k) (.str k u) F.ris
    unfold Froz.addTx
    apply tail_ris
    split
    · exact r1
    · exact r1
  · have l1 := layNew_led B.2.2 B.1 (hashStr w k) (.str k u)
    rcases F.led with q | q
    · exact .inl q
    · right
      unfold Froz.addTx
      rw [tail_led]
      split
      · exact l1.trans q
      · exact l1.trans q
def TxAt (P : Program) (w : World) (h : Heap) (a : Addr) (l : List Str) : Prop := ∃ B, h.get? a = some (Froz.sObj "set" B) ∧ TxR P w B l
theorem TxAt.at {h h' : Heap} {a : Addr} {l : List Str} (x : TxAt P w h a l) (k : ∀ o, h.get? a = some o → h'.get? a = some o) : TxAt P w h' a l := by
  obtain ⟨B, e, r⟩ := x
  exact ⟨B, k _ e, r⟩
end
end DL
set_option maxRecDepth 100000
set_option maxHeartbeats 1000000
namespace DL
open PySem PySem.Spec PyProof.Rows L2
variable [HW]
end DL
set_option maxRecDepth 100000
set_option maxHeartbeats 1000000
namespace DL
open PySem PySem.Spec PyProof.Rows L2
variable [HW]
end DL
set_option maxRecDepth 100000
set_option maxHeartbeats 1000000
namespace DL
open PySem PySem.Spec PyProof.Rows L2
variable [HW]
end DL
set_option maxRecDepth 100000
set_option maxHeartbeats 4000000
namespace DL
open PySem PySem.Spec PyProof.Rows L2
variable [HW]
section
variable {X : Cx}
def gSub (i j : Int) : Option Int := some (i - j)
end
end DL
set_option maxRecDepth 100000
set_option maxHeartbeats 1000000
namespace DL
open PySem PySem.Spec PyProof.Rows L2
variable [HW]
end DL
set_option maxRecDepth 100000
set_option maxHeartbeats 400000
namespace DL
open PySem PySem.Spec PyProof.Rows L2
variable [HW]
mutual
def noL : D → Bool
  | .tuple ds => noLs ds
  | .list _ => false
  | .dict _ => false
  | _ => true
def noLs : List D → Bool
  | [] => true
  | d :: ds => noL d && noLs ds
end
def noLv : List (D × D) → Bool
  | [] => true
  | (_, d) :: es => noL d && noLv es
def okM : Option MO → Bool
  | some (.lst ds) => noLs ds
  | some (.dit es) => noLv es
  | some (.tab _ _) => true
  | none => true
  | _ => false
def killG {α : Type} (ns : List Nat) (l : List (Option α)) : List (Option α) := ns.foldl (fun l n => l.set n none) l
theorem killG_len {α : Type} : ∀ (ns : List Nat) (l : List (Option α)), (killG ns l).length = l.length
  | [], l => rfl
  | n :: ns, l => by show (killG ns (l.set n none)).length = _; rw [killG_len ns]; simp
theorem killG_get {α : Type} : ∀ (ns : List Nat) (l : List (Option α)) (i : Nat), i < l.length → (killG ns l)[i]? = if i ∈ ns then some none else l[i]?
  | [], l, i, h => by simp [killG]
  | n :: ns, l, i, h => by
    show (killG ns (l.set n none))[i]? = _
    rw [killG_get ns _ i (by simpa using h)]
    by_cases hi : i ∈ ns
    · simp [hi]
    · by_cases hn : n = i
      · subst hn; simp [hi, List.getElem?_set_self h]
      · simp [hi, Ne.symm hn, List.getElem?_set_ne hn]
def openP (h : Hh) : List (Sum Nat D) → Option (List D × List Nat)
  | [] => some ([], [])
  | .inr d :: its => match openP h its with
    | some (ds, ns) => some (d :: ds, ns)
    | none => none
  | .inl n :: its => match h[n]?, openP h its with
    | some (some (.lst l)), some (ds, ns) => some (.list l :: ds, n :: ns)
    | _, _ => none
section
variable {M : Mm} {H : Hp} {h : Hh}
theorem killM_has {ns : List Nat} : ∀ b, Mm.Has ⟨M.u, killG ns M.m⟩ b → M.Has b := fun b z => by
  rcases z with z | z
  · exact .inl z
  · obtain ⟨i, hi, q⟩ := List.getElem_of_mem z
    have hi' : i < M.m.length := by simpa [killG_len] using hi
    have q' : (killG ns M.m)[i]? = some (some b) := by rw [List.getElem?_eq_getElem hi]; exact congrArg some q
    rw [killG_get ns M.m i hi'] at q'
    split at q'
    · cases q'
    · exact .inr (List.mem_of_getElem? q')
theorem killM_get {ns : List Nat} {i : Nat} {a : Addr} (q : (killG ns M.m)[i]? = some (some a)) : i ∉ ns ∧ M.m[i]? = some (some a) := by
  have hi : i < M.m.length := by have := lt_of_get q; rwa [killG_len] at this
  rw [killG_get ns M.m i hi] at q
  split at q
  · cases q
  · rename_i hn; exact ⟨hn, q⟩
theorem Rep.kill (rep : Rep M H h) (ns : List Nat) : Rep ⟨M.u, killG ns M.m⟩ H (killG ns h) := by
  refine ⟨fun b z => ⟨fun y => ?_, (rep.us b z).2⟩, by rw [killG_len, killG_len]; exact rep.len, fun i j b q1 q2 => ?_, fun i b q => ?_, fun i q => ?_⟩
  · obtain ⟨i, hi, q⟩ := List.getElem_of_mem y
    have q' : (killG ns M.m)[i]? = some (some b) := by rw [List.getElem?_eq_getElem hi]; exact congrArg some q
    exact (rep.us b z).1 (List.mem_of_getElem? (killM_get q').2)
  · exact rep.inj i j b (killM_get q1).2 (killM_get q2).2
  · obtain ⟨hn, q'⟩ := killM_get q
    obtain ⟨o, ho, ro⟩ := rep.at_ i b q'
    refine ⟨o, ?_, ro.sub killM_has fun k _ z q => by
      rw [killG_get ns M.m k (lt_of_get q)]
      split
      · exact .inr rfl
      · exact .inl q⟩
    rw [killG_get ns h i (by rw [← rep.len]; exact lt_of_get q'), if_neg hn]
    exact ho
  · have q' : (killG ns M.m)[i]? = some none := q
    have hi : i < M.m.length := by have := lt_of_get q'; rwa [killG_len] at this
    rw [killG_get ns h i (by rw [← rep.len]; exact hi)]
    rw [killG_get ns M.m i hi] at q'
    split at q'
    · rename_i hn; rw [if_pos hn]
    · rename_i hn; rw [if_neg hn]; exact rep.dead i q'
theorem killM_not (rep : Rep M H h) {ns : List Nat} {n : Nat} {a : Addr} (hn : n ∈ ns) (q : M.m[n]? = some (some a)) : ¬ Mm.Has ⟨M.u, killG ns M.m⟩ a := fun z => by
  rcases z with z | z
  · exact (rep.us a z).1 (List.mem_of_getElem? q)
  · obtain ⟨i, hi, e⟩ := List.getElem_of_mem z
    have q' : (killG ns M.m)[i]? = some (some a) := by rw [List.getElem?_eq_getElem hi]; exact congrArg some e
    obtain ⟨h1, h2⟩ := killM_get q'
    exact h1 (rep.inj i n a h2 q ▸ hn)
theorem openP_rds (rep : Rep M H h) {ns0 : List Nat} : ∀ {its : List (Sum Nat D)} {xs : List V} {ds : List D} {ns : List Nat}, RPs M H xs its → openP h its = some (ds, ns) → (∀ n ∈ ns, n ∈ ns0) → RDs ⟨M.u, killG ns0 M.m⟩ H xs ds
  | _, _, _, _, .nil, e, _ => by cases e; exact .nil
  | _, _, _, _, .dat (ds := its) q r, e, hs => by
    simp only [openP] at e
    split at e
    · rename_i ds ns e1
      cases e
      exact .cons (q.sub killM_has) (openP_rds rep r e1 hs)
    · cases e
  | _, _, _, _, .ref (ds := its) q r, e, hs => by
    simp only [openP] at e
    split at e
    · rename_i l ds ns e0 e1
      cases e
      obtain ⟨o, ho, ro⟩ := rep.at_ _ _ q
      rw [e0] at ho
      cases ho
      obtain ⟨xs, hx, rx⟩ := ro
      exact .cons (.lst (killM_not rep (hs _ (by simp)) q) hx (rx.sub killM_has)) (openP_rds rep r e1 fun n z => hs n (List.mem_cons_of_mem _ z))
    · cases e
theorem RS.kill {ρ : Env} {σ : L2.St} {i : Nat} {its : List (Sum Nat D)} {ds : List D} {ns : List Nat} (rep : Rep M H h) (rs : RS M H ρ σ) (er : ρ[i]? = some (some (.pack its))) (eo : openP h its = some (ds, ns)) (hn : ¬ ns.any (fun n => (ρ.set i none).any (isR n)) = true) (h0 : ns ≠ []) :
    RS ⟨M.u, killG ns M.m⟩ H (ρ.set i (some (.dat (.list ds)))) σ := by
  refine ⟨by simp [rs.1], fun j w q => ?_⟩
  by_cases hj : i = j
  · subst hj
    rw [List.getElem?_set_self (lt_of_get er)] at q
    cases q
    obtain ⟨v, ev, a, xs, rfl, na, ha, rp⟩ := rs.2 i _ er
    exact ⟨_, ev, RD.lst (fun z => na (killM_has _ z)) ha (openP_rds rep rp eo fun _ z => z)⟩
  · rw [List.getElem?_set_ne hj] at q
    obtain ⟨v, ev, rv⟩ := rs.2 j w q
    refine ⟨v, ev, ?_⟩
    have hm : some w ∈ ρ.set i none := List.mem_of_getElem? (i := j) (by rw [List.getElem?_set_ne hj]; exact q)
    cases w with
    | dat d => exact RD.sub killM_has rv
    | ins C fs =>
      obtain ⟨b, u, gs, e1, n1, q1, r1⟩ := rv
      exact ⟨b, u, gs, e1, fun z => n1 (killM_has b z), q1, r1.to fun _ _ => RD.sub killM_has⟩
    | objs os => exact RWs.to (show RWs _ _ _ _ from rv) (fun b _ _ n z => n (killM_has b z)) (fun _ _ q _ _ => q) fun _ _ => RD.sub killM_has
    | exc k C fs =>
      obtain ⟨b, d, gs, e1, r1⟩ := rv
      exact ⟨b, d, gs, e1, r1.to (fun c _ _ n z => n (killM_has c z)) (fun _ _ q _ _ => q) fun _ _ => RD.sub killM_has⟩
    | lock es =>
      obtain ⟨b, u, kvs, e1, n1, q1, r1⟩ := rv
      exact ⟨b, u, kvs, e1, fun z => n1 (killM_has b z), q1, r1.sub killM_has⟩
    | scr ns =>
      obtain ⟨b, u, e1, n1, q1⟩ := rv
      exact ⟨b, u, e1, fun z => n1 (killM_has b z), q1⟩
    | pack its' =>
      obtain ⟨n, hn0⟩ := List.exists_mem_of_ne_nil _ h0
      exact absurd (List.any_eq_true.mpr ⟨n, hn0, List.any_eq_true.mpr ⟨_, hm, rfl⟩⟩) hn
    | ref k =>
      obtain ⟨b, eb, rfl⟩ := rv
      have hk : k ∉ ns := fun z => hn (List.any_eq_true.mpr ⟨k, z, List.any_eq_true.mpr ⟨_, hm, by simp [isR]⟩⟩)
      exact ⟨b, by show (killG ns M.m)[k]? = _; rw [killG_get ns M.m k (lt_of_get eb), if_neg hk]; exact eb, rfl⟩
end
section
variable {X : Cx}
def packs : List W → Option (List (Sum Nat D))
  | [] => some []
  | .dat d :: ws => (packs ws).map (.inr d :: ·)
  | .ref n :: ws => (packs ws).map (.inl n :: ·)
  | _ :: _ => none
@[simp] theorem packs_nil : packs [] = some [] := rfl
@[simp] theorem packs_dat (d : D) (ws : List W) : packs (.dat d :: ws) = (packs ws).map (.inr d :: ·) := rfl
@[simp] theorem packs_ref (n : Nat) (ws : List W) : packs (.ref n :: ws) = (packs ws).map (.inl n :: ·) := rfl
theorem RPs.length {M : Mm} {H : Hp} : ∀ {vs : List V} {ws : List (Sum Nat D)}, RPs M H vs ws → vs.length = ws.length
  | _, _, .nil => rfl
  | _, _, .ref _ r => by rw [List.length_cons, List.length_cons, r.length]
  | _, _, .dat _ r => by rw [List.length_cons, List.length_cons, r.length]
theorem RPs.get {M : Mm} {H : Hp} : ∀ {xs : List V} {its : List (Sum Nat D)} {i : Nat} {z : Sum Nat D}, RPs M H xs its → its[i]? = some z → ∃ v, xs[i]? = some v ∧ RV M H v (match z with | .inl n => .ref n | .inr d => .dat d)
  | _, _, _, _, .nil, e => by simp at e
  | _, _, 0, _, .ref (a := a) q r, e => by simp at e; subst e; exact ⟨_, rfl, a, q, rfl⟩
  | _, _, 0, _, .dat q r, e => by simp at e; subst e; exact ⟨_, rfl, q⟩
  | _, _, i + 1, z, .ref (vs := vs) (ds := ds) q r, e => by
    obtain ⟨v, e1, e2⟩ := RPs.get (i := i) r (by simpa using e)
    exact ⟨v, by simpa using e1, e2⟩
  | _, _, i + 1, z, .dat (vs := vs) (ds := ds) q r, e => by
    obtain ⟨v, e1, e2⟩ := RPs.get (i := i) r (by simpa using e)
    exact ⟨v, by simpa using e1, e2⟩
end
end DL
set_option maxRecDepth 100000
set_option maxHeartbeats 1000000
namespace DL
open PySem PySem.Spec PyProof.Rows L2
variable [HW]
mutual
def noD : D → Bool
  | .tuple ds => noDs ds
  | .list ds => noDs ds
  | .dict _ => false
  | _ => true
def noDs : List D → Bool
  | [] => true
  | d :: ds => noD d && noDs ds
end
def noDk : List (D × D) → Bool
  | [] => true
  | (_, d) :: es => noD d && noDk es
def noDf (fs : List (Str × D)) : Bool := fs.all fun p => noD p.2
def noDw : List (Str × Sum Nat D) → Bool
  | [] => true
  | (_, .inl _) :: r => noDw r
  | (_, .inr d) :: r => noD d && noDw r
def noDo : List OI → Bool
  | [] => true
  | .ins _ fs :: r => noDf fs && noDo r
  | .exc _ _ _ :: _ => false
def noDM : Option MO → Bool
  | some (.obj _ fs) => noDw fs
  | some (.los os) => noDo os
  | some (.lst ds) => noDs ds
  | some (.dic es) => noDk es
  | some (.dit es) => noDk es
  | some (.ins _ _) => false
  | _ => true
section
variable {M : Mm} {H : Hp} {d : Addr} {o : Obj} {u : HO} {kvs0 : List (Key × V)}
mutual
theorem RD.lock (hd : H d = some (.dK kvs0)) : ∀ {v : V} {x : D}, RD M H v x → noD x = true → RD M (upd H d u) v x
  | _, _, .non, _ => .non
  | _, _, .bl b, _ => .bl b
  | _, _, .int i, _ => .int i
  | _, _, .str s, _ => .str s
  | _, _, .tup n e r, h => .tup n (e.to fun _ q => by
      rw [upd_ne]; exact q
      rintro rfl
      rcases e with ⟨_, e⟩ | ⟨_, o, _, e⟩ <;> rw [hd] at e <;> cases e) (RDs.lock hd r (by simpa [noD] using h))
  | _, _, .lst n e r, h => .lst n (by
      rw [upd_ne]; exact e
      rintro rfl
      rw [hd] at e; cases e) (RDs.lock hd r (by simpa [noD] using h))
  | _, _, .dic n e r, h => by simp [noD] at h
  | _, _, .dit n e r, h => by simp [noD] at h
theorem RDs.lock (hd : H d = some (.dK kvs0)) : ∀ {v : List V} {x : List D}, RDs M H v x → noDs x = true → RDs M (upd H d u) v x
  | _, _, .nil, _ => .nil
  | _, _, .cons a r, h => by
    simp only [noDs, Bool.and_eq_true] at h
    exact .cons (RD.lock hd a h.1) (RDs.lock hd r h.2)
end
theorem RDk.lock (hd : H d = some (.dK kvs0)) : ∀ {v : List (Key × V)} {x : List (D × D)}, RDk M H v x → noDk x = true → RDk M (upd H d u) v x
  | _, _, .nil, _ => .nil
  | _, _, .cons a r, h => by
    simp only [noDk, Bool.and_eq_true] at h
    exact .cons (RD.lock hd a h.1) (RDk.lock hd r h.2)
theorem RDt.lock (hd : H d = some (.dK kvs0)) : ∀ {v : List KA} {x : List (D × D)}, RDt M H v x → noDk x = true → RDt M (upd H d u) v x
  | _, _, .nil, _ => .nil
  | _, _, .cons n e a r, h => by
    simp only [noDk, Bool.and_eq_true] at h
    exact .cons n (e.to fun _ q => by
      rw [upd_ne]; exact q
      rintro rfl
      rcases e with ⟨_, e⟩ | ⟨_, o, _, e⟩ <;> rw [hd] at e <;> cases e) (RD.lock hd a h.1) (RDt.lock hd r h.2)
theorem RF.lock (hd : H d = some (.dK kvs0)) : ∀ {gs : List (Str × V)} {fs : List (Str × D)}, RF M H gs fs → noDf fs = true → RF M (upd H d u) gs fs
  | _, _, .nil, _ => .nil
  | _ :: _, _ :: _, .cons ⟨e, r⟩ t, h => by
    simp only [noDf, List.all_cons, Bool.and_eq_true] at h
    exact .cons ⟨e, RD.lock hd r h.1⟩ (RF.lock hd t h.2)
theorem RFw.lock (hd : H d = some (.dK kvs0)) : ∀ {gs : List (Str × V)} {fs : List (Str × Sum Nat D)}, RFw M H gs fs → noDw fs = true → RFw M (upd H d u) gs fs
  | _, _, .nil, _ => .nil
  | _ :: _, (_, .inl n) :: _, .cons ⟨e, r⟩ t, h => .cons ⟨e, r⟩ (RFw.lock hd t h)
  | _ :: _, (_, .inr x) :: _, .cons ⟨e, r⟩ t, h => by
    simp only [noDw, Bool.and_eq_true] at h
    exact .cons ⟨e, RD.lock hd r h.1⟩ (RFw.lock hd t h.2)
theorem ROs.lock (hd : H d = some (.dK kvs0)) : ∀ {xs : List V} {os : List OI}, ROs M H xs os → noDo os = true → ROs M (upd H d u) xs os
  | _, _, .nil, _ => .nil
  | _ :: _, .ins _ _ :: _, .cons ⟨a, dx, gs, e, n, q, r⟩ t, h => by
    simp only [noDo, Bool.and_eq_true] at h
    refine .cons ⟨a, dx, gs, e, n, ?_, r.lock hd h.1⟩ (ROs.lock hd t h.2)
    rw [upd_ne]; exact q
    rintro rfl
    rw [hd] at q; cases q
  | _ :: _, .exc _ _ _ :: _, .cons _ _, h => by cases h
theorem RO.lock (hd : H d = some (.dK kvs0)) (hn : ¬ M.Has d) {a : Addr} (ha : M.Has a) {m : MO} (r : RO M H a m) (h : noDM (some m) = true) : RO M (upd H d u) a m := by
  have ne : a ≠ d := fun z => hn (z ▸ ha)
  cases m with
  | lst ds => obtain ⟨xs, e, r⟩ := r; exact ⟨xs, by rw [upd_ne ne]; exact e, r.lock hd h⟩
  | dic ds => obtain ⟨xs, e, r⟩ := r; exact ⟨xs, by rw [upd_ne ne]; exact e, r.lock hd h⟩
  | dit ds => obtain ⟨xs, e, r⟩ := r; exact ⟨xs, by rw [upd_ne ne]; exact e, r.lock hd h⟩
  | ins C fs => cases h
  | obj C fs => obtain ⟨dx, gs, e, r⟩ := r; exact ⟨dx, gs, by rw [upd_ne ne]; exact e, RFw.lock hd r h⟩
  | los os => obtain ⟨xs, e, r⟩ := r; exact ⟨xs, by rw [upd_ne ne]; exact e, ROs.lock hd r h⟩
  | tab q P =>
    obtain ⟨z, ps, e, t, r⟩ := r
    refine ⟨z, ps, by rw [upd_ne ne]; exact e, t, fun pos cv hc => ?_⟩
    obtain ⟨c, e1, n, e2⟩ := r pos cv hc
    refine ⟨c, e1, n, ?_⟩
    rw [upd_ne]; exact e2
    rintro rfl
    rw [hd] at e2; cases e2
theorem Rep.lock {h : Hh} (r : Rep M H h) (hd : H d = some (.dK kvs0)) (hn : ¬ M.Has d) (hk : h.all noDM = true) : Rep M (upd H d u) h :=
  ⟨fun a m => ⟨(r.us a m).1, let ⟨w, e, ht⟩ := (r.us a m).2; ⟨w, by rw [upd_ne (fun z => hn (.inl (by rw [← z]; exact m)))]; exact e, ht⟩⟩, r.len, r.inj, fun i a e => by
    obtain ⟨m, hm, ro⟩ := r.at_ i a e
    exact ⟨m, hm, ro.lock hd hn (.inr (List.mem_of_getElem? e)) (List.all_eq_true.mp hk _ (List.mem_of_getElem? hm))⟩, r.dead⟩
end
section
variable {X : Cx}
theorem RDk.get {M : Mm} {H : Hp} : ∀ {kvs : List (Key × V)} {es : List (D × D)} {i : Nat} {e : D × D}, RDk M H kvs es → es[i]? = some e → ∃ k v, kvs[i]? = some (k, v) ∧ e.1 = kP k ∧ RD M H v e.2
  | _, _, _, _, .nil, e => by simp at e
  | _, _, 0, _, .cons r t, e => by simp at e; subst e; exact ⟨_, _, rfl, rfl, r⟩
  | _, _, i + 1, _, .cons r t, e => by
    obtain ⟨k, v, h1, h2⟩ := RDk.get (i := i) t (by simpa using e)
    exact ⟨k, v, by simpa using h1, h2⟩
end
end DL
set_option maxRecDepth 100000
set_option maxHeartbeats 1000000
namespace DL
open PySem PySem.Spec PyProof.Rows L2
variable [HW]
end DL
set_option maxRecDepth 100000
set_option maxHeartbeats 1000000
namespace DL
open PySem PySem.Spec PyProof.Rows L2
variable [HW]
end DL
set_option maxRecDepth 100000
set_option maxHeartbeats 1000000
namespace DL
open PySem PySem.Spec PyProof.Rows L2
variable [HW]
end DL
set_option maxRecDepth 100000
set_option maxHeartbeats 1000000
namespace DL
open PySem PySem.Spec PyProof.Rows L2
variable [HW]
end DL
set_option maxRecDepth 100000
set_option maxHeartbeats 1000000
namespace DL
open PySem PySem.Spec PyProof.Rows L2
variable [HW]
end DL
set_option maxRecDepth 100000
namespace DL
open PySem PySem.Spec PyProof.Rows L2
variable [HW]
end DL
set_option maxRecDepth 100000
set_option maxHeartbeats 1000000
namespace DL
open PySem PySem.Spec PyProof.Rows L2
variable [HW]
end DL
set_option maxRecDepth 100000
set_option maxHeartbeats 1000000
namespace DL
open PySem PySem.Spec PyProof.Rows L2
variable [HW]
end DL
set_option maxRecDepth 100000
set_option maxHeartbeats 1000000
namespace DL
open PySem PySem.Spec PyProof.Rows L2
variable [HW]
section
variable {X : Cx} {M : Mm} {H : Hp}
def putE (f : Str) (d : D) : List (Str × D) → List (Str × D)
  | [] => [(f, d)]
  | (g, x) :: r => if g = f then (g, d) :: r else (g, x) :: putE f d r
def insD (C : Addr) (w : W) (h : Hh) : Option (List (Str × D)) := match w with
  | .ins C' fs => if C' = C then some fs else none
  | .ref n => match h[n]? with
    | some (some (.ins C' fs)) => if C' = C then some fs else none
    | _ => none
  | _ => none
def dumF : List (Str × Sum Nat D) → List (Str × D)
  | [] => []
  | (k, .inl _) :: r => (k, .none) :: dumF r
  | (k, .inr d) :: r => (k, d) :: dumF r
def insF (C : Addr) (w : W) (h : Hh) : Option (List (Str × D)) := match w with
  | .ins C' fs => if C' = C then some fs else none
  | .ref n => match h[n]? with
    | some (some (.ins C' fs)) => if C' = C then some fs else none
    | some (some (.obj C' fs)) => if C' = C then some (dumF fs) else none
    | _ => none
  | _ => none
def fFld (C : Addr) (f : Str) (g : EM) : EM := fun ρ h => obnd (g ρ h) fun w h1 => match insD C w h1 with
  | some fs => match fs.lookup f with
    | some d => some (.dat d, h1)
    | none => none
  | none => none
def sSetF (C : Addr) (f : Str) (go gv : EM) : SM := fun ρ h => sbnd (gv ρ h) fun y h1 => sbnd (go ρ h1) fun x h2 => match x, y with
  | .ref n, .dat d => match h2[n]? with
    | some (some (.ins C' fs)) => if C' = C ∧ fs.length < 100 then some (.nx ρ, h2.set n (some (.ins C (putE f d fs)))) else none
    | _ => none
  | _, _ => none
def fMeth (C : Addr) (m : Str) (mm : FM) (go : EM) (ga : AM) : EM := fun ρ h => obnd (go ρ h) fun w h1 => match insF C w h1 with
  | some fs => match fs.lookup m with
    | some _ => none
    | none => obnd (ga ρ h1) fun ws h2 => mm (w :: ws) h2
  | none => none
def fMk (C : Addr) (mi : FM) (ga : AM) : EM := fun ρ h => obnd (ga ρ h) fun ws h1 => match mi (.ref h1.length :: ws) (h1 ++ [some (.ins C [])]) with
  | some (.dat .none, h2) => match h2[h1.length]? with
    | some (some (.ins C' fs)) => if C' = C then some (.ins C fs, h2.set h1.length none) else none
    | _ => none
  | _ => none
end
end DL
set_option maxRecDepth 100000
set_option maxHeartbeats 1000000
namespace DL
open PySem PySem.Spec PyProof.Rows L2
variable [HW]
def putT (es : List (D × D)) (k : List Key) (v : D) : List (D × D) := if (getT es k).isSome = true then es.map (fun e => if tKey e.1 = some k then (e.1, v) else e) else es ++ [(.tuple (k.map kP), v)]
def dcTL (k : TM) (t : BM) (fk fv : EM) (ρ : Env) : List D → List (D × D) → Hh → Option (List (D × D) × Hh)
  | [], es, h => some (es, h)
  | d :: ds, es, h => match k (.dat d) ρ h with
    | some ρ1 => obnd (t ρ1 h) fun b h2 => if b = true then obnd (fk ρ1 h2) fun w h3 => obnd (fv ρ1 h3) fun v h4 => match w, v with
        | .dat (.tuple ks), .dat d' => match dKeys ks with
          | some key => if es.length < sizeLine ∧ pairD ks = false then dcTL k t fk fv ρ ds (putT es key d') h4 else none
          | none => none
        | _, _ => none
      else dcTL k t fk fv ρ ds es h2
    | none => none
def fDcT (gi : IM) (k : TM) (t : BM) (fk fv : EM) (vs : List Nat) : EM := fun ρ h => obnd (gi ρ h) fun ds h1 => obnd (dcTL k t fk fv (wipeE ρ vs) ds [] h1) fun es h2 => some (.dat (.dict ((.none, .none) :: es)), h2)
end DL
set_option maxRecDepth 100000
set_option maxHeartbeats 1000000
namespace DL
open PySem PySem.Spec PyProof.Rows L2
variable [HW]
def datL : Option (Option W) → Option (List D)
  | some (some (.dat (.list ds))) => some ds
  | some (some (.dat (.tuple ds))) => some ds
  | _ => none
def lc2L (k : TM) (t : BM) (i1 : Nat) (k1 : TM) (t1 : BM) (f : EM) (vs1 : List Nat) (ρ : Env) : List D → Hh → Option (List D × Hh)
  | [], h => some ([], h)
  | d :: ds, h => match k (.dat d) ρ h with
    | some ρ1 => obnd (t ρ1 h) fun b h2 => if b = true then match datL ρ1[i1]? with
        | some ds1 => obnd (lcL k1 t1 f (wipeE ρ1 vs1) ds1 h2) fun r1 h3 => obnd (lc2L k t i1 k1 t1 f vs1 ρ ds h3) fun r h4 => some (r1 ++ r, h4)
        | none => none
      else lc2L k t i1 k1 t1 f vs1 ρ ds h2
    | none => none
def fLc2 (m : Bool) (gi : IM) (k : TM) (t : BM) (i1 : Nat) (k1 : TM) (t1 : BM) (f : EM) (vs vs1 : List Nat) : EM := fun ρ h => obnd (gi ρ h) fun ds h1 => obnd (lc2L k t i1 k1 t1 f vs1 (wipeE ρ vs) ds h1) fun r h2 => if r.length ≤ sizeLine then mkL m r h2 else none
end DL
set_option maxRecDepth 100000
set_option maxHeartbeats 1000000
namespace DL
open PySem PySem.Spec PyProof.Rows L2
variable [HW]
end DL
set_option maxRecDepth 100000
set_option maxHeartbeats 1000000
namespace DL
open PySem PySem.W PySem.Calls PyProof.Rows PyProof.V PySem.Spec
variable [HW]
end DL
set_option maxRecDepth 100000
set_option maxHeartbeats 1000000
namespace DL
open PySem PySem.Spec PyProof.Rows L2
variable [HW]
end DL
set_option maxRecDepth 100000
set_option maxHeartbeats 1000000
namespace DL
open PySem PySem.Spec PyProof.Rows L2
variable [HW]
end DL
set_option maxRecDepth 100000
set_option maxHeartbeats 1000000
namespace DL
open PySem PySem.Spec PyProof.Rows L2
variable [HW]
section
variable {X : Cx} {k : Nat} {C : Addr} {m x qual : Str} {st : Stmt} {ps : List Str} {mm : FM} {o e : Expr} {es : List Expr} {apos p pos : Pos} {go : EM} {ga : AM} {pl : Sem Bool}
def fMkM (C : Addr) (mi : FM) (ga : AM) : EM := fun ρ h => obnd (ga ρ h) fun ws h1 => match mi (.ref h1.length :: ws) (h1 ++ [some (.ins C [])]) with
  | some (.dat .none, h2) => some (.ref h1.length, h2)
  | _ => none
end
def frzI (i : Nat) (ρ : Env) (h : Hh) : Option (Env × Hh) := match ρ[i]? with
  | some (some (.ref n)) => match h[n]? with
    | some (some (.ins C fs)) => if ((ρ.set i none).any (isR n)) = true then none else some (ρ.set i (some (.ins C fs)), h.set n none)
    | _ => none
  | _ => none
def sFrzI (i : Nat) (f : SM) : SM := fun ρ h => match frzI i ρ h with
  | some (ρ', h') => f ρ' h'
  | none => none
section
variable {M : Mm} {H : Hp} {h : Hh}
theorem RS.frzI {n i : Nat} {a : Addr} {C : Addr} {fs : List (Str × D)} {ρ : Env} {σ : L2.St} (rep : Rep M H h) (rs : RS M H ρ σ) (e : M.m[n]? = some (some a)) (er : ρ[i]? = some (some (.ref n))) (ro : RO M H a (.ins C fs)) (hn : ¬ ((ρ.set i none).any (isR n)) = true) :
    RS ⟨M.u, M.m.set n none⟩ H (ρ.set i (some (.ins C fs))) σ := by
  refine ⟨by simp [rs.1], fun j w q => ?_⟩
  by_cases hj : i = j
  · subst hj
    rw [List.getElem?_set_self (lt_of_get er)] at q
    cases q
    obtain ⟨v, ev, a', ea, rfl⟩ := rs.2 i _ er
    rw [e] at ea
    cases ea
    refine ⟨_, ev, ?_⟩
    obtain ⟨dx, gs, hx, qx⟩ := ro
    exact ⟨a, dx, gs, rfl, not_set rep e, hx, qx.to fun _ _ => RD.sub less_set⟩
  · rw [List.getElem?_set_ne hj] at q
    obtain ⟨v, ev, rv⟩ := rs.2 j w q
    refine ⟨v, ev, ?_⟩
    cases w with
    | dat d => exact RD.sub less_set rv
    | ins C fs =>
      obtain ⟨b, u, gs, e1, n1, q1, r1⟩ := rv
      exact ⟨b, u, gs, e1, fun z => n1 (less_set b z), q1, r1.to fun _ _ => RD.sub less_set⟩
    | objs os => exact RWs.to (show RWs _ _ _ _ from rv) (fun b _ _ n z => n (less_set b z)) (fun _ _ q _ _ => q) fun _ _ => RD.sub less_set
    | exc k C fs =>
      obtain ⟨b, d, gs, e1, r1⟩ := rv
      exact ⟨b, d, gs, e1, r1.to (fun c _ _ n z => n (less_set c z)) (fun _ _ q _ _ => q) fun _ _ => RD.sub less_set⟩
    | pack its =>
      exact absurd (List.any_eq_true.mpr ⟨some (.pack its), List.mem_of_getElem? (i := j) (by rw [List.getElem?_set_ne hj]; exact q), rfl⟩) hn
    | lock es =>
      obtain ⟨b, u, kvs, e1, n1, q1, r1⟩ := rv
      exact ⟨b, u, kvs, e1, fun z => n1 (less_set b z), q1, r1.sub less_set⟩
    | scr ns =>
      obtain ⟨b, u, e1, n1, q1⟩ := rv
      exact ⟨b, u, e1, fun z => n1 (less_set b z), q1⟩
    | ref k =>
      obtain ⟨b, eb, rfl⟩ := rv
      have hk : n ≠ k := fun z => by
        subst z
        apply hn
        rw [List.any_eq_true]
        refine ⟨some (.ref n), ?_, by simp [isR]⟩
        exact List.mem_of_getElem? (i := j) (by rw [List.getElem?_set_ne hj]; exact q)
      exact ⟨b, by show (M.m.set n none)[k]? = _; rw [List.getElem?_set_ne hk]; exact eb, rfl⟩
end
end DL
set_option maxRecDepth 100000
set_option maxHeartbeats 1000000
namespace DL
open PySem PySem.Spec PyProof.Rows L2
variable [HW]
def tabsO (os : List (Option (Str × Addr × Addr))) : Hh := os.map fun o => o.map fun t => .tab t.1 t.2.2
theorem inj_O : ∀ (os : List (Option (Str × Addr × Addr))), ((os.filterMap id).map (·.2.2)).Nodup → ∀ {i j : Nat} {t1 t2 : Str × Addr × Addr}, os[i]? = some (some t1) → os[j]? = some (some t2) → t1.2.2 = t2.2.2 → i = j
  | [], _, i, j, t1, t2, h1, _, _ => by simp at h1
  | none :: os, nd, i, j, t1, t2, h1, h2, e => by
    cases i with
    | zero => simp at h1
    | succ i => cases j with
      | zero => simp at h2
      | succ j => exact congrArg (· + 1) (inj_O os nd (by simpa using h1) (by simpa using h2) e)
  | some t :: os, nd, i, j, t1, t2, h1, h2, e => by
    have nd' : (t.2.2 :: (os.filterMap id).map (·.2.2)).Nodup := nd
    obtain ⟨n1, n2⟩ := List.nodup_cons.mp nd'
    have inn : ∀ {k : Nat} {u : Str × Addr × Addr}, os[k]? = some (some u) → u.2.2 ∈ (os.filterMap id).map (·.2.2) := fun {k u} hk => List.mem_map.mpr ⟨u, List.mem_filterMap.mpr ⟨some u, List.mem_of_getElem? hk, rfl⟩, rfl⟩
    cases i with
    | zero => cases j with
      | zero => rfl
      | succ j =>
        simp at h1 h2
        subst h1
        exact (n1 (e ▸ inn h2)).elim
    | succ i => cases j with
      | zero =>
        simp at h1 h2
        subst h2
        exact (n1 (e ▸ inn h1)).elim
      | succ j => exact congrArg (· + 1) (inj_O os n2 (by simpa using h1) (by simpa using h2) e)
omit [HW] in
theorem walk_gO {l : PySem.W.OpenLaw} {k : Nat} {q : Program} {loose : List Str} {XP : (Str → Option Value) → Heap → Prop} {YP : World → Heap → Prop} {d : DefRec} {K : Params → PySem.W.Frag} {x : Str} {xs : List Str}
    (hn : l.most = some 63) (hdf : d.params.defaults = []) (hr : Room k callerA)
    (hY : ∀ (w : World) (h : Heap), YP w h → (K w.params).In h) (hnl : ∀ w : World, noList (K w.params) = true) (hrec : ∀ x ∈ xs, ((recsOf q).find? fun e => e.name == x).isSome = true)
    (F : ∀ (w : World) (mg : Str → Option Value) (fa : Addr) (h : Heap), (K w.params).In h → h.Ns mainGlobals mg → mg d.name = some (.ref fa) →
      ∃ (fd : FuncData) (os : List (Option (Str × Addr × Addr))) (m : FM), (∀ (s : Shared) (u : Value), BindsTo s fd ⟨[u], []⟩ [(x, u)]) ∧ (∀ t ∈ os.filterMap id, (∃ y ∈ xs, PySem.W.tabIn (K w.params) y = some (t.2.1, t.2.2)) ∧ (K w.params).lookup t.2.2 = none) ∧ ((os.filterMap id).map (·.2.2)).Nodup ∧
        (∀ base : Heap, (K w.params).In base → base.Ns mainGlobals mg → (∀ t ∈ os.filterMap id, LamX.TabB base mg t.2.1 t.2.2) → FnG l.prog w (K w.params) mg base CX0 k fa fd [x] (@spD (HW.mk l.prog w) m)) ∧
        ∀ ns : List Int, ns.length ≤ 63 → ∃ h', m [.scr ns] (tabsO os) = some (.dat (.bool true), h')) :
    PySem.W.WalkO q loose XP YP l.row.toRowW d [] (fun f vs => PySem.call f vs) := by
  apply Att.attach_call hn hdf
  intro w s₀ s₁ mg mb fa o pm cd doc a vs ns G Y ho hd hcd hmg hobj hints hlen hg
  letI : HW := HW.mk l.prog w
  have KX := hY w _ Y
  obtain ⟨fd, os, m, hb, hts, hnd, hF, hm⟩ := F w mg fa _ KX G.T.g hmg
  generalize hos : os.filterMap id = ts at hts hnd hF
  have hka : (K w.params).lookup a = none := by
    cases e : (K w.params).lookup a with
    | none => rfl
    | some u =>
      exfalso
      have e1 := KX a u e
      rw [hobj] at e1
      cases e1
      have := List.all_eq_true.mp (hnl w) _ (lookup_mem e)
      cases this
  have hT : ∀ p ∈ ts.map (·.2), PySem.W.CodeHd s₁.heap p.1 p.2 ∧ s₁.heap.get? p.2 = some { cls := .none, data := .fields #[] } := by
    intro p hp
    obtain ⟨t, ht, rfl⟩ := List.mem_map.mp hp
    obtain ⟨⟨y, hy, e⟩, _⟩ := hts t ht
    obtain ⟨dr, hdr⟩ := Option.isSome_iff_exists.mp (hrec y hy)
    exact PySem.W.tab_of G.T KX hdr e
  have nT : ∀ p ∈ ts.map (·.2), (K w.params).lookup p.2 = none := by
    intro p hp
    obtain ⟨t, ht, rfl⟩ := List.mem_map.mp hp
    exact (hts t ht).2
  refine law_gT (sp := spD m) (cs := ts.map (·.2)) KX G.T.g G.T.b G.T.builtins G.T.nolimit hg hT nT G.T.bmain hobj hints (Nat.le_trans hlen (by decide)) hr (fun base kb nb TB => hF base kb nb fun t ht => TB t.2 (List.mem_map.mpr ⟨t, ht, rfl⟩)) hb hka ?_
  intro H ha hH hna
  obtain ⟨ob, ha⟩ := ha
  obtain ⟨h', e⟩ := hm ns hlen
  have at_ : ∀ (i : Nat) (b : Addr), (os.map fun o => o.map fun t => t.2.2)[i]? = some (some b) → ∃ t, os[i]? = some (some t) ∧ t.2.2 = b ∧ t ∈ ts := by
    intro i b z
    rw [List.getElem?_map] at z
    cases y : os[i]? with
    | none => rw [y] at z; cases z
    | some o =>
      cases o with
      | none => rw [y] at z; simp at z
      | some t =>
        rw [y] at z; simp at z
        exact ⟨t, rfl, z, by rw [← hos]; exact List.mem_filterMap.mpr ⟨some t, List.mem_of_getElem? y, rfl⟩⟩
  have rep : Rep ⟨[], os.map fun o => o.map fun t => t.2.2⟩ H (tabsO os) := by
    refine ⟨fun a z => (by cases z), by simp [tabsO], fun i j b z1 z2 => ?_, fun i b z => ?_, fun i z => ?_⟩
    · obtain ⟨t1, y1, e1, _⟩ := at_ i b z1
      obtain ⟨t2, y2, e2, _⟩ := at_ j b z2
      exact inj_O os (by rw [hos]; exact hnd) y1 y2 (e1.trans e2.symm)
    · obtain ⟨t, y, rfl, ht⟩ := at_ i b z
      refine ⟨.tab t.1 t.2.2, by simp [tabsO, y], rfl, #[], hH t.2 (List.mem_map.mpr ⟨t, ht, rfl⟩), trivial, fun pos cv hc => ?_⟩
      have z : codeAmong pos [] = some cv := hc
      simp [codeAmong] at z
    · have z' : (os.map fun o => o.map fun t => t.2.2)[i]? = some none := z
      rw [List.getElem?_map] at z'
      cases y : os[i]? with
      | none => rw [y] at z'; cases z'
      | some o =>
        cases o with
        | none => simp [tabsO, y]
        | some t => rw [y] at z'; simp at z'
  have nh : ¬ Mm.Has ⟨[], os.map fun o => o.map fun t => t.2.2⟩ a := fun z => by
    rcases z with z | z
    · cases z
    · obtain ⟨o, ho, e⟩ := List.mem_map.mp (show some a ∈ os.map fun o => o.map fun t => t.2.2 from z)
      cases o with
      | none => cases e
      | some t =>
        apply hna
        rw [List.map_map]
        exact List.mem_map.mpr ⟨t, by rw [← hos]; exact List.mem_filterMap.mpr ⟨some t, ho, rfl⟩, Option.some.inj e⟩
  refine ⟨_, tabsO os, [.scr ns], rep, .cons ⟨a, ob, rfl, nh, ha⟩ .nil, .dat (.bool true), h', e, fun M' H' v _ _ r => ?_⟩
  cases (show RD M' H' v _ from r)
  rfl
section
variable {X : Cx}
def divBW := intW (fun _ j => decide (0 < j ∧ j < 1000000000000000000)) fun i j => i / j
theorem divBW_e (x y : W) (h : Hh) : divBW x y h = intW (fun _ j => decide (0 < j ∧ j < 1000000000000000000)) (fun i j => i / j) x y h := rfl
end
end DL
set_option maxRecDepth 100000
set_option maxHeartbeats 1000000
namespace DL
open PySem PySem.Spec PyProof.Rows L2
variable [HW]
end DL
set_option maxRecDepth 100000
set_option maxHeartbeats 1000000
namespace DL
open PySem PySem.Spec PyProof.Rows L2
variable [HW]
end DL
set_option maxRecDepth 100000
set_option maxHeartbeats 1000000
namespace DL
open PySem PySem.Spec PyProof.Rows L2
variable [HW]
theorem xo_at {P : Program} {w : World} {H : Hp} {h : Heap} {a C : Addr} {d : Option Addr} (x : HOk P w H h) (e : H a = some (XO C d a)) : ∃ (oe : Obj) (vs : Array Value), h.get? a = some oe ∧ oe.cls = .ref C ∧ oe.dict = d ∧ oe.data = .fields vs := by
  have z : ObjOk P w H h a (XO C d a) := x a _ e
  exact z.1
end DL
set_option maxRecDepth 100000
set_option maxHeartbeats 400000
namespace DL
open PySem PySem.Spec PyProof.Rows L2
variable [HW]
abbrev Xc := Nat × Addr × List (Str × D)
def XR (M : Mm) (H : Hp) (cls : Value) (d : Option Addr) (x : Xc) : Prop := ∃ gs, cls = .ref x.2.1 ∧ XD M H d gs ∧ RF M H gs x.2.2
theorem XR.mono {M M' : Mm} {H H' : Hp} {cls : Value} {d : Option Addr} {x : Xc} (e : Ext M M' H H') : XR M H cls d x → XR M' H' cls d x
  | ⟨gs, q, y, z⟩ => ⟨gs, q, y.to (fun _ _ q n => e.out n q) fun _ _ q _ n => e.st n q, z.to fun _ _ => RD.mono e⟩
abbrev RE := Env → Hh → Option (Xc × Hh)
abbrev RM := Env → Hh → Option ((Env × Xc) × Hh)
def RPost (W : WX) (M0 : Mm) (H0 : Hp) : Option ((Env × Xc) × Hh) → Prop
  | some ((ρ, x), h) => ∀ M H σ cls d, M.u = M0.u → Ext M0 M H0 H → Rep M H h → RS M H ρ σ → XR M H cls d x → W cls d σ H
  | none => False
theorem RPost.mono {W : WX} {M0 M1 : Mm} {H0 H1 : Hp} {r : Option ((Env × Xc) × Hh)} (p : RPost W M0 H0 r) (u : M1.u = M0.u) (x : Ext M0 M1 H0 H1) : RPost W M1 H1 r := by
  match r, p with
  | some ((ρ, y), h), p => exact fun M H σ cls d e z => p M H σ cls d (e.trans u) (x.trans z)
end DL
set_option maxRecDepth 100000
set_option maxHeartbeats 400000
namespace DL
open PySem PySem.Spec PyProof.Rows L2
variable [HW]
abbrev FR := List W → Hh → Option (Xc × Hh)
theorem XR.sub {M M' : Mm} {H : Hp} {cls : Value} {d : Option Addr} {x : Xc} (s : ∀ b, M'.Has b → M.Has b) : XR M H cls d x → XR M' H cls d x
  | ⟨gs, q, y, z⟩ => ⟨gs, q, y.to (fun b _ _ n m => n (s b m)) (fun _ _ q _ _ => q), z.to fun _ _ => RD.sub s⟩
end DL
set_option maxRecDepth 100000
set_option maxHeartbeats 400000
namespace DL
open PySem PySem.Spec PyProof.Rows L2
variable [HW]
theorem all_nil {α : Type} {P : α → Prop} : ∀ x ∈ ([] : List α), P x := fun _ m => nomatch m
theorem all_cons {α : Type} {P : α → Prop} {a : α} {l : List α} (h : P a) (t : ∀ x ∈ l, P x) : ∀ x ∈ a :: l, P x := fun x m => by
  rcases List.mem_cons.mp m with rfl | m
  · exact h
  · exact t x m
end DL
set_option maxRecDepth 100000
set_option maxHeartbeats 400000
namespace DL
open PySem PySem.Spec PyProof.Rows L2
variable [HW]
section
variable {X : Cx} {a : Addr} {pn pins : List (Addr × Obj)} {σ : L2.St} {H : Hp} {s : Shared} {E : Value → Shared → Prop}
structure EC (K : PySem.W.Frag) (C : Addr) : Prop where
  hg : PySem.W.findIn K (.ref C) "__getattribute__" = some (some (.builtin "BaseException.__getattribute__"))
  hk : PySem.W.findIn K (.ref C) "__getattr__" = some none
  hs : PySem.W.subIn K (.ref C) (.type "BaseException") = some true
  hd : PySem.W.hasDictIn K C = true
  ha : PySem.W.findIn K (.ref C) "__class__" = some (some (.builtin "object.__class__"))
  hn : PySem.W.specialIn K (.builtin "object.__class__") "__get__" = some (some (.builtin "getset_descriptor.__get__"))
  ht : PySem.W.takesIn K (.builtin "object.__class__") = some true
  hm : PySem.W.mroIn K C (.type "object") = some true
theorem EC.cl {K : PySem.W.Frag} {C : Addr} (e : EC K C) : (PySem.W.clsIn K C).isSome = true := by
  obtain ⟨cd, hc, _⟩ := PySem.W.any_some e.hd
  rw [hc]; rfl
def dOk (H : Hp) (d : Option Addr) : Prop := ∀ dd, d = some dd → ∃ gs, H dd = some (.xd gs)
theorem XD.dOk {M : Mm} {H : Hp} : ∀ {d : Option Addr} {gs : List (Str × V)}, XD M H d gs → dOk H d
  | none, _, _ => fun _ z => nomatch z
  | some _, _, e => fun _ z => by cases z; exact ⟨_, e.2⟩
theorem inst_xo {C : Addr} {d : Option Addr} (I : Inv X pins σ H s) (e : H a = some (XO C d a)) (hd : dOk H d) : ∃ oe od, PySem.W.InstAt s.heap a oe C od := by
  obtain ⟨oe, vs, h1, hc, hdt, hf⟩ := xo_at I.hok e
  have hno : PySem.W.notCls oe = true := by unfold PySem.W.notCls; rw [hf] <;> rfl
  cases d with
  | none => exact ⟨oe, none, h1, hc, hno, by rw [hdt]; trivial⟩
  | some dd =>
    obtain ⟨gs, hx⟩ := hd dd rfl
    obtain ⟨mA, hns, _⟩ := (show ObjOk X.prog X.w H s.heap dd (.xd gs) from I.hok dd _ hx)
    obtain ⟨od, ho, _⟩ := lookIn_ns hns
    exact ⟨oe, some od, h1, hc, hno, by rw [hdt]; exact ho⟩
def rIsX (K : PySem.W.Frag) : List V → Hp → VK → Prop := fun xs H Q => ∃ (a C : Addr) (d : Option Addr) (c : V) (u : Value) (b : Bool), xs = [.ref a, c] ∧ H a = some (XO C d a) ∧ dOk H d ∧ EC K C ∧ ClsV c u ∧ PySem.W.kitOne K (.ref C) u = some b ∧ Q (.bl b) H
def rIsXT (K : PySem.W.Frag) : List V → Hp → VK → Prop := fun xs H Q => ∃ (a C : Addr) (d : Option Addr) (tp : Addr) (cs : List V) (us : List Value) (b : Bool), xs = [.ref a, .ref tp] ∧ H a = some (XO C d a) ∧ dOk H d ∧ EC K C ∧ H tp = some (.tup cs) ∧ Paired ClsV cs us ∧ PySem.W.kitAny K (.ref C) us = some b ∧ Q (.bl b) H
theorem call_isX : CallR X (.builtin "isinstance") (rIsX X.K) := by
  intro pins s σ H xs us Q I r h
  obtain ⟨a, C, d, c, u, b, rfl, hx, hd, ec, k, e, q⟩ := h
  obtain ⟨u1, u2, rfl, r1, r2⟩ := vals2 r
  have e2 := k.eq r2
  subst e2
  cases (show u1 = Value.ref a from r1)
  obtain ⟨oe, od, J⟩ := inst_xo I hx hd
  exact PySem.W.kia_one (PySem.W.kitx_exc ec.cl ec.hg ec.hk ec.hs ec.ha ec.hn ec.ht ec.hm) I.kIn J e (fun z => nomatch z) fun tk => ⟨.bl b, H, I.tok tk, rfl, q⟩
theorem call_isXT : CallR X (.builtin "isinstance") (rIsXT X.K) := by
  intro pins s σ H xs us Q I r h
  obtain ⟨a, C, d, tp, cs, ws, b, rfl, hx, hd, ec, hT, k, e, q⟩ := h
  obtain ⟨u1, u2, rfl, r1, r2⟩ := vals2 r
  cases (show u2 = Value.ref tp from r2)
  cases (show u1 = Value.ref a from r1)
  obtain ⟨oe, od, J⟩ := inst_xo I hx hd
  obtain ⟨_, its, rv, o, h1, h2, n, h3⟩ := (show ObjOk X.prog X.w H s.heap tp (.tup cs) from I.hok tp _ hT)
  have e3 := ClsV.all k rv
  subst e3
  obtain ⟨oc, od', dt, sl⟩ := o
  simp only at h2 h3
  subst h2 h3
  exact PySem.W.kia_tup (PySem.W.kitx_exc ec.cl ec.hg ec.hk ec.hs ec.ha ec.hn ec.ht ec.hm) I.kIn J h1 e (fun z => nomatch z) fun tk => ⟨.bl b, H, I.tok tk, rfl, q⟩
end
def isE (ks : List (Nat × Addr)) (ys : List Nat) (w : W) (h : Hh) : Option (W × Hh) := match w with
  | .exc k C _ => if (k, C) ∈ ks then bok (decide (k ∈ ys)) h else none
  | _ => none
section
variable {X : Cx} {e : Expr} {f : EM} {p pt pos : Pos} {ks : List (Nat × Addr)} {ys : List Nat}
theorem isE_pre {σ : L2.St} {H : Hp} {Q : VK} {M1 : Mm} {H1 : Hp} {h1 : Hh} {v : V} {w : W} (r1 : Rep M1 H1 h1) (v1 : RV M1 H1 v w) (c2 : Cont RV (isE ks ys w h1) M1 H1 Q) : ∃ a k C d, v = .ref a ∧ ¬ M1.Has a ∧ H1 a = some (XO C d a) ∧ dOk H1 d ∧ (∀ dd, d = some dd → ¬ M1.Has dd) ∧ (k, C) ∈ ks ∧ Cont RV (bok (decide (k ∈ ys)) h1) M1 H1 Q := by
  unfold isE at c2
  split at c2
  · rename_i k C fs
    obtain ⟨a, d, gs, rfl, n, q, xd, rf⟩ := v1
    split at c2
    · rename_i hk
      refine ⟨a, k, C, d, rfl, n, q, xd.dOk, fun dd z => ?_, hk, c2⟩
      subst z
      exact xd.1
    · exact c2.no.elim
  · exact c2.no.elim
theorem d_isE {t : Str} {D : Addr} (hm : X.mg "isinstance" = none) (hmt : X.mg t = some (.ref D)) (hks : ∀ kC ∈ ks, EC X.K kC.2 ∧ PySem.W.kitOne X.K (.ref kC.2) (.ref D) = some (decide (kC.1 ∈ ys))) (he : DE X e f)
    (hg : Gl X "isinstance" := by rfl) (hgt : Gl X t := by rfl) (hdt : (t == ("__debug__" : Str)) = false := by decide)
    (h1 : starEach [e, .Name t pt] X.env = (false, eval e X.env) :: starEach [.Name t pt] X.env := by rfl) (h2 : starEach [.Name t pt] X.env = (false, eval (.Name t pt) X.env) :: starEach [] X.env := by rfl)
    (hpl : (backTo pos (starEach [.Name t pt] X.env)).any (·.1) = false := by rfl) : DE X (.Call (.Name "isinstance" p) [e, .Name t pt] [] pos) (f1 (isE ks ys) f) :=
  (pe_callB call_isX hg hm boot_isinstance (pa_cons he (pa_cons (pe_glob (v := .ref D) hgt hmt rfl hdt) pa_nil h2) h1) (by decide) (by decide) h1 hpl).weak fun σ H Q => by
    rintro ⟨M, h, ρ, r, rs, c⟩
    obtain ⟨w, h1, e1, c1⟩ := Cont.bind (δ := Unit) c
    refine ⟨M, h, ρ, r, rs, w, h1, e1, fun M1 H1 v x1 r1 v1 => ?_⟩
    obtain ⟨a, k, C, d, rfl, n, q, dk, _, hk, c3⟩ := isE_pre (σ := σ) (H := H) r1 v1 (c1 M1 H1 x1)
    exact ⟨a, C, d, .ref D, .ref D, _, rfl, q, dk, (hks _ hk).1, .own D, (hks _ hk).2, c3.here r1 (.bl _)⟩
theorem d_isEB {t : Str} {T : String} (hm : X.mg "isinstance" = none) (hmt : X.mg t = none) (hv : bootBuiltins t = some (.type T)) (hks : ∀ kC ∈ ks, EC X.K kC.2 ∧ PySem.W.kitOne X.K (.ref kC.2) (.type T) = some (decide (kC.1 ∈ ys))) (he : DE X e f)
    (hg : Gl X "isinstance" := by rfl) (hgt : Gl X t := by rfl) (hnt : t ≠ "__name__" := by decide) (hdt : (t == ("__debug__" : Str)) = false := by decide)
    (h1 : starEach [e, .Name t pt] X.env = (false, eval e X.env) :: starEach [.Name t pt] X.env := by rfl) (h2 : starEach [.Name t pt] X.env = (false, eval (.Name t pt) X.env) :: starEach [] X.env := by rfl)
    (hpl : (backTo pos (starEach [.Name t pt] X.env)).any (·.1) = false := by rfl) : DE X (.Call (.Name "isinstance" p) [e, .Name t pt] [] pos) (f1 (isE ks ys) f) :=
  (pe_callB call_isX hg hm boot_isinstance (pa_cons he (pa_cons (pe_bltn (v := .ty T) hgt hmt hv rfl hnt hdt) pa_nil h2) h1) (by decide) (by decide) h1 hpl).weak fun σ H Q => by
    rintro ⟨M, h, ρ, r, rs, c⟩
    obtain ⟨w, h1, e1, c1⟩ := Cont.bind (δ := Unit) c
    refine ⟨M, h, ρ, r, rs, w, h1, e1, fun M1 H1 v x1 r1 v1 => ?_⟩
    obtain ⟨a, k, C, d, rfl, n, q, dk, _, hk, c3⟩ := isE_pre (σ := σ) (H := H) r1 v1 (c1 M1 H1 x1)
    exact ⟨a, C, d, .ty T, .type T, _, rfl, q, dk, (hks _ hk).1, .ty T, (hks _ hk).2, c3.here r1 (.bl _)⟩
def tClsV (cs : List V) : TA := fun σ H Q => Q cs H
inductive ClsPA (X : Cx) : List Expr → List V → List Value → Prop
  | nil : ClsPA X [] [] []
  | cons {x : Str} {np : Pos} {C : Addr} {es : List Expr} {cs : List V} {us : List Value} : X.mg x = some (.ref C) → ClsPA X es cs us → (hg : Gl X x := by rfl) → (hd : (x == ("__debug__" : Str)) = false := by decide) →
      (hs : starEach (.Name x np :: es) X.env = (false, eval (.Name x np) X.env) :: starEach es X.env := by rfl) → ClsPA X (.Name x np :: es) (.ref C :: cs) (.ref C :: us)
  | consB {x : Str} {np : Pos} {T : String} {es : List Expr} {cs : List V} {us : List Value} : X.mg x = none → bootBuiltins x = some (.type T) → ClsPA X es cs us → (hg : Gl X x := by rfl) → (hn : x ≠ "__name__" := by decide) → (hd : (x == ("__debug__" : Str)) = false := by decide) →
      (hs : starEach (.Name x np :: es) X.env = (false, eval (.Name x np) X.env) :: starEach es X.env := by rfl) → ClsPA X (.Name x np :: es) (.ty T :: cs) (.type T :: us)
theorem ClsPA.pa : ∀ {es : List Expr} {cs : List V} {us : List Value}, ClsPA X es cs us → PA X es (tClsV cs)
  | _, _, _, .nil => pa_nil
  | _, _, _, .cons hm t hg hd hs => (pa_cons (pe_glob (v := .ref _) hg hm rfl hd) t.pa hs).weak fun σ H Q q => q
  | _, _, _, .consB hm hv t hg hn hd hs => (pa_cons (pe_bltn (v := .ty _) hg hm hv rfl hn hd) t.pa hs).weak fun σ H Q q => q
theorem ClsPA.cv : ∀ {es : List Expr} {cs : List V} {us : List Value}, ClsPA X es cs us → Paired ClsV cs us
  | _, _, _, .nil => .nil
  | _, _, _, .cons _ t _ _ _ => .cons (.own _) t.cv
  | _, _, _, .consB _ _ t _ _ _ _ => .cons (.ty _) t.cv
theorem d_isET {es : List Expr} {kt : Nat} {cs : List V} {us : List Value} (hm : X.mg "isinstance" = none) (hn : ClsPA X es cs us) (hz : cs.length ≤ 100) (hks : ∀ kC ∈ ks, EC X.K kC.2 ∧ PySem.W.kitAny X.K (.ref kC.2) us = some (decide (kC.1 ∈ ys))) (he : DE X e f)
    (hg : Gl X "isinstance" := by rfl)
    (h1 : starEach [e, .Tuple es kt pt] X.env = (false, eval e X.env) :: starEach [.Tuple es kt pt] X.env := by rfl) (h2 : starEach [.Tuple es kt pt] X.env = (false, eval (.Tuple es kt pt) X.env) :: starEach [] X.env := by rfl)
    (hpl : (backTo pos (starEach [.Tuple es kt pt] X.env)).any (·.1) = false := by rfl) : DE X (.Call (.Name "isinstance" p) [e, .Tuple es kt pt] [] pos) (f1 (isE ks ys) f) :=
  (pe_callB call_isXT hg hm boot_isinstance (pa_cons he (pa_cons (pe_tup hn.pa) pa_nil h2) h1) (by decide) (by decide) h1 hpl).weak fun σ H Q => by
    rintro ⟨M, h, ρ, r, rs, c⟩
    obtain ⟨w, h1, e1, c1⟩ := Cont.bind (δ := Unit) c
    refine ⟨M, h, ρ, r, rs, w, h1, e1, fun M1 H1 v x1 r1 v1 => ?_⟩
    obtain ⟨a, k, C, d, rfl, n, q, dk, dn, hk, c3⟩ := isE_pre (σ := σ) (H := H) r1 v1 (c1 M1 H1 x1)
    refine ⟨by rw [sizeLine_eq]; omega, fun tp np => ?_⟩
    have x2 := ext_new (M := M1) (o := .tup cs) np
    refine ⟨a, C, d, tp, cs, us, _, rfl, ?_, fun dd z => ?_, (hks _ hk).1, upd_same, hn.cv, (hks _ hk).2, c3.fin x2 (r1.upd_new np) (RD.bl _)⟩
    · rw [upd_ne (ne_of_none q np)]; exact q
    · obtain ⟨gs, e⟩ := dk dd z
      exact ⟨gs, by rw [upd_ne (ne_of_none e np)]; exact e⟩
def xfW (ks : List (Nat × Addr)) (n : Str) (w : W) (h : Hh) : Option (W × Hh) := match w with
  | .exc k C fs => if (k, C) ∈ ks then match fs.lookup n with
      | some d => some (.dat d, h)
      | none => none
    else none
  | _ => none
theorem rf_get {M : Mm} {H : Hp} {n : Str} {d : D} : ∀ {gs : List (Str × V)} {fs : List (Str × D)}, RF M H gs fs → fs.lookup n = some d → ∃ v, gs.lookup n = some v ∧ RD M H v d
  | _, _, .nil, e => by cases e
  | (a, v) :: gs, (b, d') :: fs, .cons ⟨r1, r2⟩ t, e => by
    dsimp only at r1 r2
    subst r1
    rw [List.lookup_cons] at e ⊢
    cases q : n == a with
    | true => rw [q] at e; cases e; exact ⟨v, rfl, r2⟩
    | false => rw [q] at e; exact rf_get t e
theorem d_xf {n : Str} (hks : ∀ kC ∈ ks, EC X.K kC.2 ∧ PySem.W.findIn X.K (.ref kC.2) n = some none) (he : DE X e f) (hb : attributeBase e n X.env (eval e X.env) = eval e X.env := by rfl) : DE X (.Attribute e n pos) (f1 (xfW ks n) f) :=
  ⟨fun pins s σ H Q I h => by
    refine attr_of hb (thn (he.run pins s σ H (fun x H1 => ∃ a C dd gs v, x = .ref a ∧ H1 a = some (XO C (some dd) a) ∧ H1 dd = some (.xd gs) ∧ gs.lookup n = some v ∧ EC X.K C ∧ PySem.W.findIn X.K (.ref C) n = some none ∧ Q v H1) I ?_) fun u s1 ⟨x, H1, I1, rx, a, C, dd, gs, v, ex, ea, ed, l, ec, hno, q⟩ => ?_)
    · obtain ⟨M, h, ρ, r, rs, c⟩ := h
      obtain ⟨w, h1, e1, c1⟩ := Cont.bind (δ := Unit) c
      refine ⟨M, h, ρ, r, rs, w, h1, e1, fun M1 H1 v x1 r1 v1 => ?_⟩
      have c2 := c1 M1 H1 x1
      unfold xfW at c2
      split at c2
      · rename_i k C fs
        obtain ⟨a, d, gs, rfl, n', q, xd, rf⟩ := v1
        split at c2
        · rename_i hk
          split at c2
          · rename_i dv el
            obtain ⟨v, el', rv⟩ := rf_get rf el
            cases d with
            | none => cases (show gs = [] from xd); cases el'
            | some dd => exact ⟨a, C, dd, gs, v, rfl, q, xd.2, el', (hks _ hk).1, (hks _ hk).2, c2.here r1 rv⟩
          · exact c2.no.elim
        · exact c2.no.elim
      · exact c2.no.elim
    · subst ex
      obtain rfl : u = Value.ref a := rx
      obtain ⟨oe, vs, h1, hc, hdt, hf⟩ := xo_at I1.hok ea
      obtain ⟨mA, hns, hr⟩ := (show ObjOk X.prog X.w H1 s1.heap dd (.xd gs) from I1.hok dd _ ed)
      obtain ⟨od, ho, hl⟩ := lookIn_ns hns
      obtain ⟨u, hu, ru⟩ := RelO.some_of (v := v) (o := mA n) (by rw [← l]; exact hr n)
      have J : PySem.W.InstAt s1.heap a oe C (some od) := ⟨h1, hc, by unfold PySem.W.notCls; rw [hf] <;> rfl, by rw [hdt]; exact ho⟩
      exact HandSPX.exc_get I1.kIn J ec.hg ec.hk ec.hs (PySem.W.findObj_own ec.hd hno rfl (by rw [hl, hu])) (handed_of ru) ⟨v, H1, I1.tok _, ru, q⟩⟩
end
end DL
set_option maxRecDepth 100000
set_option maxHeartbeats 1000000
namespace DL
open PySem PySem.Spec PyProof.Rows L2
variable [HW]
end DL
set_option maxRecDepth 100000
set_option maxHeartbeats 1000000
namespace DL
open PySem PySem.Spec PyProof.Rows L2
variable [HW]
section
open PySem.W PySem.Calls
variable {prog : Program} {w : World} {A : Around} {E : Value → Shared → Prop} {s : Shared}
end
end DL
set_option maxRecDepth 100000
set_option maxHeartbeats 1000000
namespace DL
open PySem PySem.Spec PyProof.Rows L2
variable [HW]
end DL
set_option maxRecDepth 100000
set_option maxHeartbeats 400000
namespace DL
open PySem PySem.Spec PyProof.Rows L2
variable [HW]
structure UE (K : PySem.W.Frag) (mg : Str → Option Value) (C : Addr) (x : Str) : Prop where
  at_ : mg x = some (.ref C)
  kp : PySem.W.keepIn K (.ref C) = true
  ex : PySem.W.excIn K C [.type "ValueError", .type "Exception", .type "BaseException", .type "object"] "ValueError.__new__" = true
  bP : PySem.W.subIn K (.ref C) (.type "BaseException") = some true
  tP : PySem.W.typeIn K (.ref C) = some (.type "type")
structure CE (K : PySem.W.Frag) (mg : Str → Option Value) (C : Addr) (x : Str) : Prop where
  at_ : mg x = some (.ref C)
  bP : PySem.W.subIn K (.ref C) (.type "BaseException") = some true
  hd : PySem.W.hasDictIn K C = true
  tP : PySem.W.typeIn K (.ref C) = some (.type "type")
section
variable {K : PySem.W.Frag} {mg : Str → Option Value} {C Ce : Addr} {x : Str} {cls c t : Value} {r : List Value} {b d : Bool}
theorem kit_same : PySem.W.kitOne K c c = some true := by unfold PySem.W.kitOne; rw [if_pos (beq_self_eq_true _)]
theorem CE.kitCls (c : CE K mg C x) : PySem.W.kitCls K t (.ref C) = PySem.W.subIn K t (.ref C) := by
  obtain ⟨cd, hc, _⟩ := PySem.W.any_some c.hd
  have e : ((PySem.W.clsIn K C).isSome && PySem.W.typeIn K (.ref C) == some (.type "type")) = true := by rw [hc, c.tP] <;> rfl
  unfold PySem.W.kitCls
  dsimp only
  rw [if_pos e]
theorem kit_not (c : CE K mg C x) (s1 : PySem.W.subIn K (.ref Ce) (.ref C) = some false) (s2 : PySem.W.subIn K (.ref Ce) (.ref Ce) = some true) : PySem.W.kitOne K (.ref Ce) (.ref C) = some false := by
  have ne : ((Value.ref Ce) == (Value.ref C)) = false := Bool.eq_false_iff.mpr fun q => by
    have e : Ce = C := Value.ref.inj (beq_iff_eq.mp q)
    rw [← e, s2] at s1
    cases s1
  unfold PySem.W.kitOne
  rw [ne, if_neg Bool.false_ne_true, c.kitCls]
  exact s1
theorem kit_bi {T : String} (hm : PySem.W.kitMeta T = true) (s : PySem.W.subIn K (.ref Ce) (.type T) = some b) : PySem.W.kitOne K (.ref Ce) (.type T) = some b := by
  unfold PySem.W.kitOne
  rw [if_neg (by intro q; cases (beq_iff_eq.mp q))]
  unfold PySem.W.kitCls
  dsimp only
  rw [if_pos hm]
  exact s
theorem ka_nil : PySem.W.kitAny K t [] = some false := rfl
theorem ka_no (h : PySem.W.kitOne K t c = some false) (q : PySem.W.kitAny K t r = some b) : PySem.W.kitAny K t (c :: r) = some b := by
  unfold PySem.W.kitAny; rw [h]; exact q
theorem bt_VE : bootBuiltins "ValueError" = some (.type "ValueError") := by decide +kernel
theorem bt_LE : bootBuiltins "LookupError" = some (.type "LookupError") := by decide +kernel
theorem bt_RE : bootBuiltins "RuntimeError" = some (.type "RuntimeError") := by decide +kernel
theorem bt_KE : bootBuiltins "KeyError" = some (.type "KeyError") := by decide +kernel
theorem km_VE : PySem.W.kitMeta "ValueError" = true := by decide +kernel
theorem km_LE : PySem.W.kitMeta "LookupError" = true := by decide +kernel
theorem km_RE : PySem.W.kitMeta "RuntimeError" = true := by decide +kernel
theorem km_KE : PySem.W.kitMeta "KeyError" = true := by decide +kernel
end
end DL
set_option maxRecDepth 100000
set_option maxHeartbeats 1000000
namespace DL
open PySem PySem.Spec PyProof.Rows L2
variable [HW]
def OI.w : OI → W
  | .ins C fs => .ins C fs
  | .exc k C fs => .exc k C fs
theorem roi_rv {M : Mm} {H : Hp} {v : V} : ∀ {o : OI}, ROI M H v o → RV M H v o.w
  | .ins _ _, r => r
  | .exc _ _ _, r => r
theorem rv_roi {M : Mm} {H : Hp} {v : V} : ∀ {o : OI}, RV M H v o.w → ROI M H v o
  | .ins _ _, r => r
  | .exc _ _ _, r => r
theorem ros_get {M : Mm} {H : Hp} : ∀ {xs : List V} {os : List OI}, ROs M H xs os → ∀ {i : Nat} {o : OI}, os[i]? = some o → ∃ v, xs[i]? = some v ∧ ROI M H v o
  | _, _, .nil, i, o, e => by simp at e
  | _, _, .cons a t, 0, o, e => by
    cases e
    exact ⟨_, rfl, a⟩
  | _, _, .cons a t, i + 1, o, e => by
    obtain ⟨v, e1, r⟩ := ros_get t (i := i) (o := o) (by simpa using e)
    exact ⟨v, by simpa using e1, r⟩
theorem ros_len {M : Mm} {H : Hp} : ∀ {xs : List V} {os : List OI}, ROs M H xs os → xs.length = os.length
  | _, _, .nil => rfl
  | _, _, .cons _ t => congrArg (· + 1) (ros_len t)
theorem ros_ext {M M' : Mm} {H H' : Hp} (x : Ext M M' H H') {xs : List V} {os : List OI} (r : ROs M H xs os) : ROs M' H' xs os :=
  Paired.mapP r fun _ _ z => z.to (fun _ _ q n => x.out n q) (fun _ _ q _ n => x.st n q) fun _ _ => RD.mono x
def toO : W → Option OI
  | .ins C fs => some (.ins C fs)
  | .exc k C fs => some (.exc k C fs)
  | _ => none
theorem toO_w {w : W} {o : OI} (e : toO w = some o) : w = o.w := by
  unfold toO at e
  split at e <;> cases e <;> rfl
def toOs : List W → Option (List OI)
  | [] => some []
  | w :: ws => match toO w, toOs ws with
    | some o, some os => some (o :: os)
    | _, _ => none
theorem rvs_os {M : Mm} {H : Hp} {vs : List V} {ws : List W} (r : RVs M H vs ws) : ∀ {os : List OI}, toOs ws = some os → ROs M H vs os := by
  induction r with
  | nil => intro os e; cases e; exact .nil
  | @cons v vs w ws a t ih =>
    intro os e
    unfold toOs at e
    split at e
    · rename_i o os' e1 e2
      cases e
      have := toO_w e1
      subst this
      exact .cons (rv_roi a) (ih e2)
    · cases e
def objW (ws : List W) (h : Hh) : Option (W × Hh) := match toOs ws with
  | some os => if os.length ≤ sizeLine then some (.objs os, h) else none
  | none => none
section
variable {X : Cx}
theorem d_lstO {es : List Expr} {pos : Pos} {g : AM} (hg : DA X es g) : DE X (.List es pos) (fA objW g) := (pe_lst hg).weak fun σ H Q => by
  rintro ⟨M, h, ρ, r, rs, c⟩
  obtain ⟨w, h1, e1, c1⟩ := Cont.bind (δ := Unit) c
  refine ⟨M, h, ρ, r, rs, w, h1, e1, fun M1 H1 v x1 r1 v1 => ?_⟩
  have c2 := c1 M1 H1 x1
  unfold objW at c2
  split at c2
  · rename_i os e
    have q := rvs_os v1 e
    split at c2
    · rename_i hz
      refine ⟨by rw [ros_len q]; exact hz, fun p np => ?_⟩
      have x2 := ext_new (M := M1) (o := .lst v) np
      exact c2.fin x2 (r1.upd_new np) ⟨p, v, rfl, r1.new np, upd_same, ros_ext x2.ext q⟩
    · exact c2.no.elim
  · exact c2.no.elim
def idxO (x y : W) (h : Hh) : Option (W × Hh) := match x, y with
  | .objs os, .dat (.int i) => if 0 ≤ i then match os[i.toNat]? with
      | some o => some (o.w, h)
      | none => none
    else none
  | _, _ => none
theorem s_idxO {K : PySem.W.Frag} : Sem2 (fun x y H Q => rIx K x y H Q ∨ rIxDict x y H Q) idxO := by
  intro M H h x y wx wy Q rep rx ry c
  unfold idxO at c
  split at c
  · rename_i os i
    obtain ⟨a, xs, rfl, n, ha, q⟩ := (show RWs M H x os from rx)
    cases (show RD M H _ _ from ry)
    split at c
    · rename_i hi
      split at c
      · rename_i o e
        obtain ⟨v, ev, rv⟩ := ros_get q e
        have ea : L2.atI xs i = some v := by
          have := atI_nat (xs := xs) (j := i.toNat) ev
          rwa [show ((i.toNat : Nat) : Int) = i by omega] at this
        exact .inl (.inl ⟨a, _, i, v, rfl, rfl, .of ha, ea, c.fin (.refl _ _) rep (roi_rv rv)⟩)
      · exact c.no.elim
    · exact c.no.elim
  · exact c.no.elim
theorem d_idxO {k : Nat} (hr : Room k X.A) {a b : Expr} {pos : Pos} {f g : EM} (ha : DE X a f) (hb : DE X b g) (hs : PlainIx b) (W : HWX X := by exact ⟨rfl, rfl⟩) : DE X (.Subscript a b pos) (f2 idxO f g) :=
  (pe_ix (ix_seq.or (ix_dict (hu_of hr) W)) ha hb hs).weak (op_imp s_idxO)
end
abbrev IMo := Env → Hh → Option (List OI × Hh)
end DL
set_option maxRecDepth 100000
set_option maxHeartbeats 1000000
namespace DL
open PySem PySem.Spec PyProof.Rows L2
variable [HW]
structure BaseF (B : String) (Bs : Str) (bm : List Value) (nI iI : String) : Prop where
  F : ExcBaseFacts B nI iI bm
  SF : StoreFacts B bm "object.__setattr__" "object"
  ty : typeOf (.type B) = pure (.type "type")
  st : Manifest.isStub B = false
  bt : bootBuiltins Bs = some (.type B)
  hi : PySem.W.handedIn (.builtin iI) = true
  nn : Bs ≠ "__name__"
  nd : (Bs == ("__debug__" : Str)) = false
theorem base_LE : BaseF "LookupError" "LookupError" [.type "LookupError", .type "Exception", .type "BaseException", .type "object"] "LookupError.__new__" "LookupError.__init__" where
  F := PySem.F.excBase_LookupError
  SF := PySem.F.store_LookupError
  ty := by kernel_rfl
  st := by decide +kernel
  bt := bt_LE
  hi := by decide +kernel
  nn := by decide
  nd := by decide
theorem base_RE : BaseF "RuntimeError" "RuntimeError" [.type "RuntimeError", .type "Exception", .type "BaseException", .type "object"] "RuntimeError.__new__" "RuntimeError.__init__" where
  F := PySem.F.excBase_RuntimeError
  SF := PySem.F.store_RuntimeError
  ty := by kernel_rfl
  st := by decide +kernel
  bt := bt_RE
  hi := by decide +kernel
  nn := by decide
  nd := by decide
theorem base_VE : BaseF "ValueError" "ValueError" [.type "ValueError", .type "Exception", .type "BaseException", .type "object"] "ValueError.__new__" "ValueError.__init__" where
  F := PySem.F.excBase_ValueError
  SF := PySem.F.store_ValueError
  ty := by kernel_rfl
  st := by decide +kernel
  bt := bt_VE
  hi := by decide +kernel
  nn := by decide
  nd := by decide
structure OexG (K : PySem.W.Frag) (C : Addr) (bm : List Value) (nI : String) : Prop where
  q : PySem.W.excInitIn K C bm nI = true
  ov : PySem.W.excOver K C bm = true
  hd : PySem.W.hasDictIn K C = true
  sa : PySem.W.findIn K (.ref C) "__setattr__" = some (some (.builtin "object.__setattr__"))
  exC : PySem.W.subIn K (.ref C) (.type "BaseException") = some true
  tyC : PySem.W.typeIn K (.ref C) = some (.type "type")
  kC : PySem.W.keepIn K (.ref C) = true
section
variable {prog : Program} {w : World} {A : Around} {R : Result → Shared → Prop} {hp : Heap} {g : Array GenState} {d : Drawn} {t : Nat} {os : OsState} {K : PySem.W.Frag} {B : String} {bm : List Value} {C x t0 : Addr} {f : Str} {tk : Tok} {v : Value}
theorem osa_first (SF : StoreFacts B bm "object.__setattr__" "object") (Y : K.In hp) (hx : hp.get? x = some (PySem.HandSPX.excO C t0)) (ov : PySem.W.excOver K C bm = true) (hd : PySem.W.hasDictIn K C = true) (hf : PySem.W.findIn K (.ref C) f = some none)
    (hq : ∀ h' tk' dx, (∀ b o, b ≠ x → hp.get? b = some o → h'.get? b = some o) → hp.objs.size ≤ dx → dx ≠ x → h'.get? x = some { cls := .ref C, dict := some dx, data := .fields #[.ref t0, .none, .none, .none, .bool false, .none] } → h'.Ns1 dx (fun y => if y = f then some v else none) → R (.ok (.ret .none)) ⟨h', g, d, tk', os⟩) :
    codeAny (model prog w) A (.call (.builtin "object.__setattr__") ⟨[.ref x, .str f tk, v], []⟩) R ⟨hp, g, d, t, os⟩ := by
  have ht : PySem.W.takerIn K C f = some none := by unfold PySem.W.takerIn; rw [hf]; rfl
  refine PySem.W.osa_openX (od := none) SF Y ⟨hx, rfl, rfl, trivial⟩ ov ht fun b => ?_
  obtain ⟨cd, hc, hd'⟩ := PySem.W.any_some hd
  refine wpAny_bind (wpAny_pure (wpAny_bind (PySem.W.instanceDict_exc (s := ⟨hp, g, d, t, os⟩) hx (PySem.W.looks_clsIn Y hc) hd' ?_)))
  have hxs : x ≠ hp.objs.size := Nat.ne_of_lt (Heap.lt_size hx)
  have h1 : (hp.push (PySem.W.dictOf [] 0)).get? x = some (PySem.HandSPX.excO C t0) := Heap.get?_push_of_some _ hx
  show wpAny _ _ (Builtin.ObjectAttr.storeInDict hp.objs.size (.str f tk) f v) _ _ _
  refine PySem.HandSPX.store_in_new ?_ fun h' tk' hn' hs => ?_
  · exact ⟨_, #[], _, (Heap.get?_update_ne _ _ _ _ hxs.symm).trans (Heap.get?_push_at rfl rfl), rfl, fun e he => absurd he (by simp), fun _ => rfl⟩
  · refine hq h' tk' hp.objs.size (fun b o hb ho => ?_) (Nat.le_refl _) hxs.symm ?_ hn'
    · exact (hs.2 b (Nat.ne_of_lt (Heap.lt_size ho))).trans ((Heap.get?_update_ne _ _ _ _ hb).trans (Heap.get?_push_of_some _ ho))
    · exact (hs.2 x hxs).trans (Heap.get?_update_self _ h1 rfl)
end
section
variable {X : Cx} {pins : List (Addr × Obj)} {σ : L2.St} {H : Hp} {s : Shared} {a C : Addr} {f : Str} {y : V} {u : Value} {E : Value → Shared → Prop} {A : Around} {B : String} {Bs : Str} {bm : List Value} {nI iI : String}
theorem one_new {Q : Unit → Shared → Prop} (T : OexG X.K C bm nI) (SF : StoreFacts B bm "object.__setattr__" "object") (I : Inv X pins σ H s) (e : H a = some (exo a C none)) (hno : PySem.W.findIn X.K (.ref C) f = some none) (ry : RelV y u)
    (h : ∀ dx s', H dx = none → dx ≠ a → Inv X pins σ (upd (upd H dx (exd dx [(f, y)])) a (exo a C (some dx))) s' → Q () s') : wpAny (model X.prog X.w) A (setAttr (.ref a) f u) Q E s := by
  obtain ⟨t1, ho⟩ := exo_at I.hok e
  obtain ⟨hp, g, d, t, os⟩ := s
  refine PySem.W.set_plain I.kIn (od := none) ⟨ho, rfl, rfl, trivial⟩ T.sa ?_
  refine osa_first SF I.kIn ho T.ov T.hd hno fun h' tk' dx k dn dne hx hn => ?_
  have hnd : H dx = none := I.hok.fresh dn
  have nd : ∀ {b : Addr} {o : Obj}, hp.get? b = some o → b ≠ dx := fun q => Nat.ne_of_lt (Nat.lt_of_lt_of_le (Heap.lt_size q) dn)
  have na : ∀ {b : Addr}, H b = none → b ≠ a := fun n => ne_of_none e n |>.symm
  refine h dx _ hnd dne (I.un (t' := tk') (h' := h') {
    keep := fun b o q n _ _ => k b o (na n) q
    slot := fun b o q n _ _ => ⟨o.slots, k b o (na n) q⟩
    free := fun b o q n _ => by rw [upd_ne (na n), upd_ne (nd q)]; exact n
    there := fun b o q _ => by
      by_cases z : b = a
      · subst z; exact ⟨_, hx⟩
      · exact ⟨o, k b o z q⟩
    tups := fun b xs q => by rw [upd_ne (at_ne e q exo_tup), upd_ne (ne_of_none q hnd)]; exact q
    frzs := fun b o v q => by rw [upd_ne (at_ne e q exo_frz), upd_ne (ne_of_none q hnd)]; exact q
    tbls := fun b ps q => ⟨#[], by rw [upd_ne (at_ne e q exo_tbl), upd_ne (ne_of_none q hnd), q]; simp⟩ } fun b o q => ?_)
  by_cases z : b = a
  · subst z
    rw [upd_same] at q; cases q
    exact exo_ok hx
  rw [upd_ne z] at q
  by_cases z2 : b = dx
  · subst z2
    rw [upd_same] at q; cases q
    exact exd_ok hn (relO_put (fs := []) ry fun _ => trivial)
  rw [upd_ne z2] at q
  refine (I.hok b o q).stay (fun c v hc y => k c v (hc.elim (fun w => w ▸ z) fun w => at_ne e w exo_own) y) (fun c w => ?_) fun c xs w => ?_
  · rw [upd_ne (at_ne e w exo_own), upd_ne (ne_of_none w hnd)]; exact w
  · rw [upd_ne (at_ne e w exo_tup), upd_ne (ne_of_none w hnd)]; exact w
theorem class_at (T : OexG X.K C bm nI) : ∃ nm q N bs b sn sub ab col dd k0 k1 k2 k3 k5 hdct, X.K.lookup C = some (excClassObj nm q C N bs b hdct sn sub ab col dd k0 k1 k2 k3 k5 nI) ∧ ∀ Y : String, b.contains (.type Y) = bm.contains (.type Y) := by
  have q := T.q
  unfold PySem.W.excInitIn at q
  split at q
  case h_2 => cases q
  case h_1 dd cd sl ho =>
  split at q
  case h_2 => cases q
  case h_1 C' b k0 k1 k2 k3 n k5 hm hs =>
  simp only [Bool.and_eq_true, beq_iff_eq, Bool.not_eq_true'] at q
  obtain ⟨⟨⟨e1, e2⟩, hdel⟩, ht⟩ := q
  subst e1 e2
  obtain ⟨nm, bs, mro, ns, qn, hd, sn, sb, ab, col, del⟩ := cd
  dsimp only at hm hdel
  subst hm hdel
  obtain ⟨l⟩ := sl
  dsimp only at hs
  subst hs
  exact ⟨nm, qn, ns, bs, b, sn, sb, ab, col, dd, k0, k1, k2, k3, k5, hd, ho, fun Y => PySem.W.excTail_contains Y _ ht⟩
theorem base_init {us : List Value} {Q : Value → Shared → Prop} (T : OexG X.K C bm nI) (F : ExcBaseFacts B nI iI bm) (I : Inv X pins σ H s) (e : H a = some (exo a C none)) (hl : us.length ≤ sizeLine) (h : ∀ s', Inv X pins σ H s' → Q .none s') :
    wpAny (model X.prog X.w) A (call (.builtin iI) (.ref a :: us)) Q E s := by
  obtain ⟨nm, q, N, bs, b, sn, sub, ab, col, dd, k0, k1, k2, k3, k5, hdct, hC, hT⟩ := class_at T
  obtain ⟨t1, ho⟩ := exo_at I.hok e
  obtain ⟨hp, g, d, t, os⟩ := s
  refine wpAny_call (PySem.HandSPX.init_base F hT (I.kIn _ _ hC) ho hl fun h' t2 k hx => ?_)
  have J := I.write (t' := t) (x := a) (e := a) (o := exo a C none) (by rw [e]; trivial) (.inl rfl) k ⟨_, hx⟩ (exo_ok hx)
  have eu : upd H a (exo a C none) = H := funext fun b => by
    by_cases z : b = a
    · subst z; rw [upd_same, e]
    · rw [upd_ne z]
  exact h _ (eu ▸ J)
end
def spI (C : Addr) (f : Str) : Sp := fun vs H Q _ => ∃ (a : Addr) (y : V), vs = [.ref a, y] ∧ H a = some (exo a C none) ∧ ∀ dx, H dx = none → dx ≠ a → Q .non (upd (upd H dx (exd dx [(f, y)])) a (exo a C (some dx)))
def tUA (C : Addr) : TE := fun σ H Q => ∃ (a : Addr) (y : V), σ[0]? = some (some (.ref a)) ∧ σ[1]? = some (some y) ∧ H a = some (exo a C none) ∧ Q .non H
def tUB (C : Addr) (f : Str) : TS := fun D σ H => ∃ (a : Addr) (y : V), σ[0]? = some (some (.ref a)) ∧ σ[1]? = some (some y) ∧ H a = some (exo a C none) ∧ ∀ dx, H dx = none → dx ≠ a → D.nx σ (upd (upd H dx (exd dx [(f, y)])) a (exo a C (some dx)))
section
variable {X : Cx} {C : Addr} {f : Str} {B : String} {Bs : Str} {bm : List Value} {nI iI : String} {a b a' b' : Expr} {p1 p2 p5 p6 p8 p10 : Pos}
theorem pe_binit {pl : Sem Bool} (BF : BaseF B Bs bm nI iI) (T : OexG X.K C bm nI) (hm : X.mg Bs = none) (vV : PySem.W.findCls X.K (.type B) (.type "type") "__init__" = some (.val (.builtin iI))) (pa : PE X a (tVar 0)) (pb : PE X b (tVar 1)) (hg : Gl X Bs)
    (hc : eval (.Call (.Attribute (.Name Bs p1) "__init__" p2) [a, b] [] p5) X.env = (do
      let ov ← eval (.Name Bs p1) X.env
      standAt p2.atName
      let (g, first) ← holding [ov] (getMethod ov "__init__" pl)
      callWith p5 g first (backTo p5 (starEach [a, b] X.env)) (backToKw p5 (keywordEach [] X.env))))
    (ha : starEach [a, b] X.env = (false, eval a X.env) :: starEach [b] X.env) (hb : starEach [b] X.env = (false, eval b X.env) :: starEach [] X.env) (hpl : (backTo p5 (starEach [b] X.env)).any (·.1) = false) :
    PE X (.Call (.Attribute (.Name Bs p1) "__init__" p2) [a, b] [] p5) (tUA C) := by
  refine ⟨fun pins s σ H Q I h => ?_⟩
  obtain ⟨x, y, s0, s1, e, q⟩ := h
  refine PySem.W.methodCall_KW (ld_blt I hg hm BF.bt ?_ BF.nn BF.nd) hc
  obtain ⟨m, fr⟩ := I.fr
  refine PySem.W.method_type fr I.ok.mod.kin BF.ty BF.st vV BF.hi ?_
  show wpAny _ _ (callWith p5 (Value.builtin iI) [] (backTo p5 (starEach [a, b] X.env)) []) _ _ _
  refine PyProof.Rows.callWith_method1 (thn ((pa_cons pa (pa_cons pb pa_nil hb) ha).run p5 pins _ σ H (fun vs H1 => vs = [.ref x, y] ∧ H1 = H) (I.tok _) ⟨_, s0, _, s1, rfl, rfl⟩) fun us s2 ⟨vs, H1, I1, r1, ev, eh⟩ => ?_) ha hpl
  subst ev eh
  obtain ⟨u1, u2, rfl, r1, r2⟩ := vals2 r1
  obtain rfl : u1 = Value.ref x := r1
  exact base_init T BF.F I1 e (by show 1 ≤ sizeLine; rw [sizeLine_eq]; omega) fun s' J => ⟨.non, H1, J, rfl, q⟩
theorem ps_one (SF : StoreFacts B bm "object.__setattr__" "object") (T : OexG X.K C bm nI) (hno : PySem.W.findIn X.K (.ref C) f = some none) (pa : PE X a' (tVar 0)) (pb : PE X b' (tVar 1)) (hs : swapsWith b' (some (.Attribute a' f p8)) p10.line X.env = pure false) : PS X (.Assign [.Attribute a' f p8] b' p10) (tUB C f) := by
  refine ⟨fun pins s σ H D I h => ?_⟩
  obtain ⟨x, y, s0, s1, e, q⟩ := h
  refine plainObj_wpAny_Assign_Attribute (thn (pb.run pins s σ H (fun v H1 => v = y ∧ H1 = H) I ⟨_, s1, rfl, rfl⟩) fun v s2 ⟨v1, H1, I1, r1, e1, e2⟩ => ?_) hs
  subst e1 e2
  refine thn (pa.run pins s2 σ H1 (fun v H2 => v = .ref x ∧ H2 = H1) I1 ⟨_, s0, rfl, rfl⟩) fun u s3 ⟨v2, H2, I2, r2, e1, e2⟩ => ?_
  subst e1 e2
  obtain rfl : u = Value.ref x := r2
  exact one_new T SF I2 e hno r1 fun dx s' n ne J => ⟨σ, _, J, q dx n ne⟩
theorem ui_body {pl : Sem Bool} (BF : BaseF B Bs bm nI iI) (T : OexG X.K C bm nI) (hm : X.mg Bs = none) (vV : PySem.W.findCls X.K (.type B) (.type "type") "__init__" = some (.val (.builtin iI))) (hno : PySem.W.findIn X.K (.ref C) f = some none)
    (pa : PE X a (tVar 0)) (pb : PE X b (tVar 1)) (pa' : PE X a' (tVar 0)) (pb' : PE X b' (tVar 1)) (hg : Gl X Bs := by rfl)
    (hc : eval (.Call (.Attribute (.Name Bs p1) "__init__" p2) [a, b] [] p5) X.env = (do
      let ov ← eval (.Name Bs p1) X.env
      standAt p2.atName
      let (g, first) ← holding [ov] (getMethod ov "__init__" pl)
      callWith p5 g first (backTo p5 (starEach [a, b] X.env)) (backToKw p5 (keywordEach [] X.env))) := by rfl)
    (ha : starEach [a, b] X.env = (false, eval a X.env) :: starEach [b] X.env := by rfl) (hb : starEach [b] X.env = (false, eval b X.env) :: starEach [] X.env := by rfl) (hpl : (backTo p5 (starEach [b] X.env)).any (·.1) = false := by rfl)
    (hs1 : swapsWith (.Call (.Attribute (.Name Bs p1) "__init__" p2) [a, b] [] p5) none p6.line X.env = pure false := by rfl) (hs2 : swapsWith b' (some (.Attribute a' f p8)) p10.line X.env = pure false := by rfl) :
    PSs X [.Expr (.Call (.Attribute (.Name Bs p1) "__init__" p2) [a, b] [] p5) p6, .Assign [.Attribute a' f p8] b' p10] (tSeq (tDrop (tUA C)) (tSeq (tUB C f) tNext)) :=
  pss_cons (ps_expr (pe_binit BF T hm vV pa pb hg hc ha hb hpl) hs1) (pss_cons (ps_one BF.SF T hno pa' pb' hs2) pss_nil)
end
section
variable {P : Program} {w : World} {K : PySem.W.Frag} {mg : Str → Option Value} {base : Heap}
theorem ui_ok {q n : Str} {st : Stmt} {fI C : Addr} {f : Str} {fd : FuncData} (F : Fun K "__init__" q st fI fd) (S : FnScope ["self", n] ["self", n] (defScope st))
    (hb : ∀ (cdv : Value) (A : Around) (outer : List PySem.Env) (s : Shared) (H : Hp) (E : XK), PSs (cxOf CX0 P w K mg base ["self", n] q (defScope st) fI cdv A outer s H E).nox (defBody st) (tSeq (tDrop (tUA C)) (tSeq (tUB C f) tNext))) :
    FnG P w K mg base CX0 1 fI fd ["self", n] (spI C f) :=
  fn_g0 (k := 0) F S (fun vs H Q E ⟨a, y, e, _⟩ => by subst e; rfl) fun cdv _ A outer s H vs Q E _ ⟨a, y, e, ha, q⟩ => ⟨_, hb cdv A outer s H E, by
    subst e
    exact ⟨a, y, rfl, rfl, ha, a, y, rfl, rfl, ha, fun dx n ne => q dx n ne⟩⟩
structure UE1 (K : PySem.W.Frag) (mg : Str → Option Value) (C : Addr) (x f : Str) : Prop where
  at_ : mg x = some (.ref C)
  ex : ∃ (B nI iI : String) (bm : List Value) (fI : Addr) (fd : FuncData) (ps : List Str), ExcBaseFacts B nI iI bm ∧ OexG K C bm nI ∧ PySem.W.findIn K (.ref C) "__init__" = some (some (.ref fI)) ∧ PySem.W.typeIn K (.ref fI) = some (.type "function") ∧ Binds K fd ps [] ∧ ∀ (P : Program) (w : World) (base : Heap), FnG P w K mg base CX0 1 fI fd ps (spI C f)
end
end DL
set_option maxRecDepth 100000
set_option maxHeartbeats 1000000
namespace DL
open PySem PySem.Spec PyProof.Rows L2
variable [HW]
end DL
set_option maxRecDepth 100000
set_option maxHeartbeats 1000000
namespace DL
open PySem PySem.Spec PyProof.Rows L2
variable [HW]
theorem ros_app {M : Mm} {H : Hp} : ∀ {xs : List V} {os : List OI} {ys : List V} {ps : List OI}, ROs M H xs os → ROs M H ys ps → ROs M H (xs ++ ys) (os ++ ps)
  | _, _, _, _, .nil, q => q
  | _, _, _, _, .cons a t, q => .cons a (ros_app t q)
end DL
set_option maxRecDepth 100000
set_option maxHeartbeats 1000000
namespace DL
open PySem PySem.Spec PyProof.Rows L2
variable [HW]
end DL
set_option maxRecDepth 100000
set_option maxHeartbeats 1000000
namespace DL
open PySem PySem.Spec PyProof.Rows L2
variable [HW]
end DL
set_option maxRecDepth 100000
set_option maxHeartbeats 4000000
namespace DL
open PySem PySem.Spec PyProof.Rows L2
variable [HW]
end DL
set_option maxRecDepth 100000
set_option maxHeartbeats 4000000
namespace DL
open PySem PySem.Spec PyProof.Rows L2
variable [HW]
end DL
set_option maxRecDepth 100000
set_option maxHeartbeats 400000
namespace DL
open PySem PySem.Spec PyProof.Rows L2
variable [HW]
end DL
set_option maxRecDepth 100000
set_option maxHeartbeats 1000000
namespace DL
open PySem PySem.Spec PyProof.Rows L2
variable [HW]
end DL
set_option maxRecDepth 100000
set_option maxHeartbeats 4000000
namespace DL
open PySem PySem.Spec PyProof.Rows L2
variable [HW]
end DL
set_option maxRecDepth 100000
set_option maxHeartbeats 1000000
namespace DL
open PySem PySem.Spec PyProof.Rows L2
variable [HW]
end DL
set_option maxRecDepth 100000
set_option maxHeartbeats 4000000
namespace DL
open PySem PySem.Spec PyProof.Rows L2
variable [HW]
end DL
set_option maxRecDepth 100000
set_option maxHeartbeats 4000000
namespace DL
open PySem PySem.Spec PyProof.Rows L2
variable [HW]
end DL
set_option maxRecDepth 100000
set_option maxHeartbeats 4000000
namespace DL
open PySem PySem.Spec PyProof.Rows L2
variable [HW]
end DL
set_option maxRecDepth 100000
set_option maxHeartbeats 4000000
namespace DL
open PySem PySem.Spec PyProof.Rows L2
variable [HW]
end DL
set_option maxRecDepth 100000
set_option maxHeartbeats 1000000
namespace DL
open PySem PySem.Spec PyProof.Rows L2
variable [HW]
end DL
set_option maxRecDepth 100000
set_option maxHeartbeats 1000000
namespace DL
open PySem PySem.Spec PyProof.Rows L2
variable [HW]
end DL
set_option maxRecDepth 100000
set_option maxHeartbeats 1000000
namespace DL
open PySem PySem.Spec PyProof.Rows L2
variable [HW]
end DL
set_option maxRecDepth 100000
set_option maxHeartbeats 1000000
namespace DL
open PySem PySem.Spec PyProof.Rows L2
variable [HW]
end DL
set_option maxRecDepth 100000
set_option maxHeartbeats 4000000
namespace DL
open PySem PySem.Spec PyProof.Rows L2
variable [HW]
end DL
set_option maxRecDepth 100000
set_option maxHeartbeats 4000000
namespace DL
open PySem PySem.Spec PyProof.Rows L2
variable [HW]
end DL
set_option maxRecDepth 100000
set_option maxHeartbeats 1000000
namespace DL
open PySem PySem.Spec PyProof.Rows L2
variable [HW]
end DL
set_option maxRecDepth 100000
set_option maxHeartbeats 1000000
namespace DL
open PySem PySem.Spec PyProof.Rows L2
variable [HW]
end DL
set_option maxRecDepth 100000
set_option maxHeartbeats 1000000
namespace DL
open PySem PySem.Spec PyProof.Rows L2
variable [HW]
end DL
set_option maxRecDepth 100000
set_option maxHeartbeats 1000000
namespace DL
open PySem PySem.Spec PyProof.Rows L2
variable [HW]
end DL
set_option maxRecDepth 100000
set_option maxHeartbeats 1000000
namespace DL
open PySem PySem.Spec PyProof.Rows L2
variable [HW]
end DL
set_option maxRecDepth 100000
set_option maxHeartbeats 1000000
namespace DL
open PySem PySem.Spec PyProof.Rows L2
variable [HW]
end DL
set_option maxRecDepth 100000
set_option maxHeartbeats 1000000
namespace DL
open PySem PySem.Spec PyProof.Rows L2
variable [HW]
structure UER (K : PySem.W.Frag) (mg : Str → Option Value) (C : Addr) (x : Str) : Prop where
  at_ : mg x = some (.ref C)
  kp : PySem.W.keepIn K (.ref C) = true
  ex : PySem.W.excIn K C [.type "RuntimeError", .type "Exception", .type "BaseException", .type "object"] "RuntimeError.__new__" = true
  bP : PySem.W.subIn K (.ref C) (.type "BaseException") = some true
  tP : PySem.W.typeIn K (.ref C) = some (.type "type")
end DL
set_option maxRecDepth 100000
set_option maxHeartbeats 1000000
namespace DL
open PySem PySem.Spec PyProof.Rows L2
variable [HW]
end DL
set_option maxRecDepth 100000
set_option maxHeartbeats 1000000
namespace DL
open PySem PySem.Spec PyProof.Rows L2
variable [HW]
section
variable {X : Cx} {C : Addr} {x fl : Str} {f : EM} {e : Expr} {p pos : Pos}
theorem err_laid {pins : List (Addr × Obj)} {σ : L2.St} {H : Hp} {s : Shared} {a d : Addr} {fs : List (Str × V)} (I : L2.Inv X pins σ H s) (ea : H a = some (exo a C (some d))) (ed : H d = some (exd d fs)) (ne : a ≠ d) :
    L2.Inv X pins σ (upd (upd H d (.xd fs)) a (XO C (some d) a)) s := by
  obtain ⟨t0, hoe⟩ := exo_at I.hok ea
  obtain ⟨mA, hns, rel⟩ := exd_at I.hok ed
  have J : L2.Inv X pins σ (upd H d (.xd fs)) s := I.write (t' := s.toks) (x := d) (e := d) (o := .xd fs) (by rw [ed]; trivial) (.inl rfl) (fun b u _ y => y) (by
    obtain ⟨o, es, ep, e1, _⟩ := hns
    exact ⟨o, e1⟩) ⟨mA, hns, rel⟩
  have ea2 : (upd H d (.xd fs)) a = some (exo a C (some d)) := by rw [upd_ne ne]; exact ea
  have K := J.write (t' := s.toks) (x := a) (e := a) (o := XO C (some d) a) (h' := s.heap) (by rw [ea2]; trivial) (.inl rfl) (fun b u _ y => y) ⟨_, hoe⟩ (by
    refine ⟨⟨_, _, hoe, rfl, rfl, rfl⟩, ⟨_, hoe⟩, fun h1 h2 z k => ?_⟩
    obtain ⟨oe, vs, h3, h4, h5, h6⟩ := z
    exact ⟨oe, vs, k _ h3, h4, h5, h6⟩)
  exact K
def tNewE (C : Addr) (fl : Str) (t : TE) : TE := fun σ H Q => t σ H fun y H1 => ∀ a d, H1 a = none → H1 d = none → a ≠ d → Q (.ref a) (upd (upd H1 d (.xd [(fl, y)])) a (XO C (some d) a))
theorem pe_newE1 {te : TE} (u : UE1 X.K X.mg C x fl) (hr : RG 2 X.A) (he : PE X e te) (hg : Gl X x) (hdb : (x == ("__debug__" : Str)) = false) (h1 : starEach [e] X.env = (false, eval e X.env) :: starEach [] X.env) (hpl : (backTo pos (starEach [] X.env)).any (·.1) = false) :
    PE X (.Call (.Name x p) [e] [] pos) (tNewE C fl te) := by
  refine ⟨fun pins s σ H Q I h => ?_⟩
  obtain ⟨B, nI, iI, bm, fI, fd, ps, BF, T, iC, tI, hbd, F0⟩ := u.ex
  have F1 := F0 X.prog X.w X.base
  obtain ⟨nm, q, N, bs, b, sn, sub, ab, col, dd, k0, k1, k2, k3, k5, hdct, hC, hT⟩ := class_at T
  refine wpAny_Call_Name_kw (ld_glob I hg u.at_ ?_ hdb)
  refine PySem.W.callWith_K (h₀ := X.base) I.ok.mod.kin T.kC (thn ((pa_cons he pa_nil h1).run pos pins s σ H (fun vs H1 => match vs with | [y] => ∀ a d, H1 a = none → H1 d = none → a ≠ d → Q (.ref a) (upd (upd H1 d (.xd [(fl, y)])) a (XO C (some d) a)) | _ => False) I ?_) fun us s1 ⟨vs, H1, I1, r1, q1⟩ => ⟨I1.kIn, ?_⟩) h1 hpl
  · exact h
  obtain ⟨y, rfl⟩ : ∃ y, vs = [y] := by
    match vs, q1 with
    | [y], _ => exact ⟨y, rfl⟩
  replace q1 : ∀ a d, H1 a = none → H1 d = none → a ≠ d → Q (.ref a) (upd (upd H1 d (.xd [(fl, y)])) a (XO C (some d) a)) := q1
  obtain ⟨u0, rfl, ry⟩ := vals1 r1
  show wpAny _ _ (call (.ref C) [u0]) _ _ _
  obtain ⟨hp, g, dr, tk, os⟩ := s1
  have hsz : hp.objs.size ≤ hp.objs.size + 1 := Nat.le_succ _
  have hn : H1 (hp.objs.size + 1) = none := I1.hok.fresh hsz
  have kk : ∀ b o, hp.get? b = some o → ((hp.push (PySem.W.kdv_tup [u0])).push (PySem.HandSPX.excO C hp.objs.size)).get? b = some o := fun b o e => Heap.get?_push_of_some _ (Heap.get?_push_of_some _ e)
  have hget : ((hp.push (PySem.W.kdv_tup [u0])).push (PySem.HandSPX.excO C hp.objs.size)).get? (hp.objs.size + 1) = some (PySem.HandSPX.excO C hp.objs.size) := by heap_get
  have I2 : L2.Inv X pins σ (upd H1 (hp.objs.size + 1) (exo (hp.objs.size + 1) C none)) ⟨(hp.push (PySem.W.kdv_tup [u0])).push (PySem.HandSPX.excO C hp.objs.size), g, dr, tk, os⟩ :=
    I1.laid (t' := tk) kk hsz (exo_ok hget)
  let QQ : VK := fun v H2 => v = .non ∧ ∃ (d : Addr), H1 d = none ∧ d ≠ hp.objs.size + 1 ∧ H2 = upd (upd (upd H1 (hp.objs.size + 1) (exo (hp.objs.size + 1) C none)) d (exd d [(fl, y)])) (hp.objs.size + 1) (exo (hp.objs.size + 1) C (some d))
  have hq : spI C fl [.ref (hp.objs.size + 1), y] (upd H1 (hp.objs.size + 1) (exo (hp.objs.size + 1) C none)) QQ E0 := ⟨hp.objs.size + 1, y, rfl, upd_same, fun dx nd ne => by
    rw [upd_ne ne] at nd
    exact ⟨rfl, dx, nd, ne, rfl⟩⟩
  have r2 : Vals [V.ref (hp.objs.size + 1), y] [Value.ref (hp.objs.size + 1), u0] := .cons rfl (.cons ry .nil)
  have bd := hbd { heap := (hp.push (PySem.W.kdv_tup [u0])).push (PySem.HandSPX.excO C hp.objs.size), gens := g, drawn := dr, toks := tk, os := os } [Value.ref (hp.objs.size + 1), u0] I2.kIn (by
    have e := F1.len _ _ _ _ hq
    simpa using e)
  rw [List.append_nil] at bd
  refine wpAny_call (PySem.HandSPX.call_own BF hT (I1.kIn _ _ hC) (PySem.W.looks_findIn I1.kIn iC) (fun self => PySem.W.bind_fn I1.kIn self tI) (by show 1 ≤ sizeLine; rw [sizeLine_eq]; omega)
    (codeAny_mono (F1.run _ X.stack _ _ ⟨[Value.ref (hp.objs.size + 1), u0], []⟩ [Value.ref (hp.objs.size + 1), u0] _ QQ E0 ⟨hr.room.make C [u0] [], hr.gd⟩ (I2.env0.make C [u0] []) bd r2 hq) fun r s' hq' => ?_))
  cases r with
  | error er => exact False.elim hq'
  | ok fl' =>
    cases fl' with
    | ret u =>
      obtain ⟨v, H2, os2, bare2, un2, hok2, rv, ev, d, nd, dne, eh⟩ := hq'
      subst ev
      obtain ⟨h2, g2, d2, t2, os'⟩ := s'
      have os2' : os' = os := os2
      subst os2'
      have J := I2.call (t' := t2) (d' := d2) (ch := []) un2 hok2 bare2 (fun b hb => nomatch hb)
      have ea : H2 (hp.objs.size + 1) = some (exo (hp.objs.size + 1) C (some d)) := by rw [eh, upd_same]
      have ed : H2 d = some (exd d [(fl, y)]) := by rw [eh, upd_ne dne, upd_same]
      have L := err_laid J ea ed (Ne.symm dne)
      have eq : upd (upd H2 d (.xd [(fl, y)])) (hp.objs.size + 1) (XO C (some d) (hp.objs.size + 1)) = upd (upd H1 d (.xd [(fl, y)])) (hp.objs.size + 1) (XO C (some d) (hp.objs.size + 1)) := funext fun b => by
        by_cases z : b = hp.objs.size + 1
        · subst z; rw [upd_same, upd_same]
        rw [upd_ne z, upd_ne z]
        by_cases z2 : b = d
        · subst z2; rw [upd_same, upd_same]
        rw [upd_ne z2, upd_ne z2, eh, upd_ne z, upd_ne z2, upd_ne z]
      exact ⟨rv, .ref (hp.objs.size + 1), _, L, rfl, by rw [eq]; exact q1 _ d hn nd (Ne.symm dne)⟩
    | next => exact False.elim hq'
    | brk => exact False.elim hq'
    | cont => exact False.elim hq'
theorem pe_newE0 {bmB : List Value} {B newId initId : String} (F : ExcBaseFacts B newId initId bmB) (q : PySem.W.excIn X.K C bmB newId = true) (gC : X.mg x = some (.ref C)) (kC : PySem.W.keepIn X.K (.ref C) = true) (hg : Gl X x := by rfl) (hdb : (x == ("__debug__" : Str)) = false := by decide) :
    PE X (.Call (.Name x p) [] [] pos) (fun _ H Q => ∀ a, H a = none → Q (.ref a) (upd H a (XO C none a))) := by
  refine ⟨fun pins s σ H Q I h => ?_⟩
  refine wpAny_Call_Name_kw (ld_glob I hg gC ?_ hdb)
  refine PySem.W.callWith_K0 (first := []) I.kIn kC ?_
  show wpAny _ _ (call (.ref C) []) _ _ _
  obtain ⟨bm, N, nm, qn, bs, hdct, sn, sub, ab, col, dd, k0, k1, k2, k3, k5, mN, hC, hN, hni, T⟩ := exc_obj I.kIn q
  refine wpAny_call_exc_subT F T hC hN hni (fun h' a hm => ?_) (by show 0 ≤ sizeLine; omega)
  have hn : H a = none := I.hok.gone hm.new
  obtain ⟨t, ht, _, _⟩ := hm.there
  exact ⟨.ref a, upd H a (XO C none a), I.laidN hm.keeps hm.new hn ⟨⟨_, _, ht, rfl, rfl, rfl⟩, ⟨_, ht⟩, fun h1 h2 z k => by
    obtain ⟨oe, vs, h3, h4, h5, h6⟩ := z
    exact ⟨oe, vs, k _ h3, h4, h5, h6⟩⟩, rfl, h a hn⟩
def fNewE (k : Nat) (C : Addr) (fl : Str) (f : EM) : EM := fun ρ h => obnd (f ρ h) fun w h1 => match w with
  | .dat d => some (.exc k C [(fl, d)], h1)
  | _ => none
def fNewE0 (k : Nat) (C : Addr) : EM := fun _ h => some (.exc k C [], h)
theorem newE_pre {k : Nat} {σ : L2.St} {H : Hp} {Q : VK} (q : tE (fNewE k C fl f) σ H Q) : tNewE C fl (tE f) σ H Q := by
  obtain ⟨M, h, ρ, r, rs, c⟩ := q
  obtain ⟨w, h1, e1, c1⟩ := Cont.bind (δ := Unit) c
  refine ⟨M, h, ρ, r, rs, w, h1, e1, fun M1 H1 v x1 r1 rv a d na nd ne => ?_⟩
  have c2 := c1 M1 H1 x1
  split at c2
  · rename_i d0
    have sm : Same H1 (upd (upd H1 d (.xd [(fl, v)])) a (XO C (some d) a)) := fun b o e => by
      by_cases z : b = a
      · subst z; rw [na] at e; cases e
      · rw [upd_ne z]
        by_cases z2 : b = d
        · subst z2; rw [nd] at e; cases e
        · rw [upd_ne z2]; exact e
    obtain ⟨ri, xi⟩ := r1.grow sm
    refine c2.fin xi ri ⟨a, some d, [(fl, v)], rfl, new_out (fun b hb => r1.tracked hb) na, upd_same, ⟨new_out (fun b hb => r1.tracked hb) nd, by rw [upd_ne (Ne.symm ne), upd_same]⟩, ?_⟩
    exact .cons ⟨rfl, RD.mono xi.ext rv⟩ .nil
  · exact c2.no.elim
theorem d_newE1 {k : Nat} (u : UE1 X.K X.mg C x fl) (hr : RG 2 X.A) (he : DE X e f) (hg : Gl X x := by rfl) (hdb : (x == ("__debug__" : Str)) = false := by decide) (h1 : starEach [e] X.env = (false, eval e X.env) :: starEach [] X.env := by rfl) (hpl : (backTo pos (starEach [] X.env)).any (·.1) = false := by rfl) :
    DE X (.Call (.Name x p) [e] [] pos) (fNewE k C fl f) := (pe_newE1 u hr he hg hdb h1 hpl).weak fun _ _ _ => newE_pre
theorem d_newE0 {bmB : List Value} {B newId initId : String} {k : Nat} (F : ExcBaseFacts B newId initId bmB) (q : PySem.W.excIn X.K C bmB newId = true) (gC : X.mg x = some (.ref C)) (kC : PySem.W.keepIn X.K (.ref C) = true) (hg : Gl X x := by rfl) (hdb : (x == ("__debug__" : Str)) = false := by decide) :
    DE X (.Call (.Name x p) [] [] pos) (fNewE0 k C) := (pe_newE0 F q gC kC hg hdb).weak fun σ H Q => by
  rintro ⟨M, h, ρ, r, rs, c⟩ a na
  have sm : Same H (upd H a (XO C none a)) := fun b o e => by
    by_cases z : b = a
    · subst z; rw [na] at e; cases e
    · rw [upd_ne z]; exact e
  obtain ⟨ri, xi⟩ := r.grow sm
  exact Cont.fin (show Cont RV (some (.exc k C [], h)) M H Q from c) xi ri ⟨a, none, [], rfl, new_out (fun b hb => r.tracked hb) na, upd_same, rfl, .nil⟩
end
end DL
set_option maxRecDepth 100000
set_option maxHeartbeats 1000000
namespace DL
open PySem PySem.Spec PyProof.Rows L2
variable [HW]
def addO (x y : W) (h : Hh) : Option (W × Hh) := match x, y with
  | .objs a, .objs b => if a.length + b.length ≤ sizeLine then some (.objs (a ++ b), h) else none
  | _, _ => none
theorem s_addO : Sem2 rCat addO := by
  intro M H h x y wx wy Q rep rx ry c
  unfold addO at c
  split at c
  · rename_i os ps
    obtain ⟨a, xs, rfl, n, ha, q⟩ := (show RWs M H x os from rx)
    obtain ⟨b, ys, rfl, n2, hb, q2⟩ := (show RWs M H y ps from ry)
    split at c
    · rename_i hz
      refine ⟨a, b, xs, ys, rfl, rfl, ha, hb, by rw [ros_len q, ros_len q2]; exact hz, fun p np => ?_⟩
      have x2 := ext_new (M := M) (o := .lst (xs ++ ys)) np
      exact c.fin x2 (rep.upd_new np) ⟨p, xs ++ ys, rfl, rep.new np, upd_same, ros_ext x2.ext (ros_app q q2)⟩
    · exact c.no.elim
  · exact c.no.elim
theorem d_addO {X : Cx} {a b : Expr} {pos : Pos} {f g : EM} (ha : DE X a f) (hb : DE X b g) : DE X (.BinOp a .Add b pos) (f2 addO f g) := d_op op_cat s_addO ha hb
abbrev TMw := List W → Env → Hh → Option Env
def tGws (ts : List Nat) (g : TMw) : TGs := fun vs σ H Q => ∃ M h ρ ws ρ', Rep M H h ∧ RS M H ρ σ ∧ RVs M H vs ws ∧ g ws ρ h = some ρ' ∧ ∀ σ' : L2.St, RS M H ρ' σ' → σ'.length = σ.length → (∀ j, j ∉ ts → σ'[j]? = σ[j]?) → Q σ' H
def gEw : TMw := fun ds ρ _ => match ds with
  | [] => some ρ
  | _ => none
def gCw (g : TM) (k : TMw) : TMw := fun ds ρ h => match ds with
  | d :: ds => match g d ρ h with
    | some ρ' => k ds ρ' h
    | none => none
  | [] => none
section
variable {X : Cx}
theorem dgw_nil : PGs X [] (tGws [] gEw) := pgs_nil.weak fun v σ H Q => by
  rintro ⟨M, h, ρ, ds, ρ', r, rs, rv, e, q⟩
  unfold gEw at e
  split at e
  · cases e; cases rv; exact ⟨rfl, q σ rs rfl fun _ _ => rfl⟩
  · cases e
theorem dgw_cons {tg : Expr} {tgs : List Expr} {ts ts' : List Nat} {g : TM} {k : TMw} (h1 : DG X tg ts g) (h2 : PGs X tgs (tGws ts' k)) (hs : (assignEach (tg :: tgs) X.env).map (·.2) = assign tg X.env :: (assignEach tgs X.env).map (·.2) := by rfl) : PGs X (tg :: tgs) (tGws (ts ++ ts') (gCw g k)) :=
  (pgs_cons h1 h2 hs).weak fun v σ H Q => by
    rintro ⟨M, h, ρ, ds, ρ', r, rs, rv, e, q⟩
    unfold gCw at e
    split at e
    · rename_i d ds'
      split at e
      · rename_i ρ1 e1
        cases rv with
        | cons a t =>
          refine ⟨_, _, rfl, M, h, ρ, d, ρ1, r, rs, a, e1, fun σ1 rs1 l1 o1 => ⟨M, h, ρ1, ds', ρ', r, rs1, t, e, fun σ2 rs2 l2 o2 => q σ2 rs2 (l2.trans l1) fun j hj => ?_⟩⟩
          rw [o2 j (fun z => hj (List.mem_append_right _ z)), o1 j (fun z => hj (List.mem_append_left _ z))]
      · cases e
    · cases e
def tGp (K : PySem.W.Frag) (n : Nat) (ts : List Nat) (g : TMw) : TG := fun v σ H Q => ∃ a xs, v = .ref a ∧ SqT K H a xs ∧ xs.length = n ∧ tGws ts g xs σ H Q
theorem dgw_tup {tgs : List Expr} {k : Nat} {pos : Pos} {ts : List Nat} {g : TMw} {n : Nat} (hc : X.calm = true) (h : PGs X tgs (tGws ts g)) (hn : (assignEach tgs X.env).length = n := by rfl) (hst : (assignEach tgs X.env).findIdx? (·.1) = none := by rfl) : PG X (.Tuple tgs k pos) (tGp X.K n ts g) :=
  pg_tup hc h hn hst
end
def ItX (M : Mm) (H : Hp) (J : It) (os : List OI) : Prop := ∀ M1 H1, Ext M M1 H H1 → (∀ a, M1.Has a → ∃ o, H1 a = some o ∧ tpO o = false) → (∀ (i : Nat) (o : OI), os[i]? = some o → J.go i H1 ∧ ∀ x H2, J.yld i H1 x H2 → Same H1 H2 ∧ ∃ T u, x = .ref T ∧ H2 T = some (.tup [.int (i : Int), u]) ∧ ROI M1 H2 u o) ∧ J.stop os.length H1
def tIx (g : IMo) : TI := fun σ H R => ∃ M h ρ os h', Rep M H h ∧ RS M H ρ σ ∧ g ρ h = some (os, h') ∧ ∀ M' H' J, ExtE M M' H H' → Rep M' H' h' → ItX M' H' J os → R J H'
theorem itx_enum {K : PySem.W.Frag} {M : Mm} {H : Hp} {a : Addr} {xs : List V} {os : List OI} (n : ¬ M.Has a) (ha : H a = some (.lst xs)) (q : ROs M H xs os) : ItX M H (Ite K a) os := fun M1 H1 x tr => by
  have ha1 := x.st n ha
  have q1 := ros_ext x q
  refine ⟨fun i d e => ?_, ⟨xs, .of ha1, by rw [ros_len q]; exact Nat.le_refl _⟩⟩
  obtain ⟨v, ev, rv⟩ := ros_get q1 e
  refine ⟨⟨xs, v, .of ha1, ev⟩, fun y H2 hy => ?_⟩
  obtain ⟨T, z, rfl, nT, rfl, hz⟩ := hy
  have := hz xs (.of ha1)
  rw [ev] at this
  cases this
  have gx := grow_ext (M := M1) (same_new (o := .tup [.int (i : Int), v]) nT)
  exact ⟨same_new nT, T, v, rfl, upd_same, rv.to (fun _ _ q n => gx.out n q) (fun _ _ q _ n => gx.st n q) fun _ _ => RD.mono gx⟩
def enumO (g : AM) : IMo := fun ρ h => obnd (g ρ h) fun ws h1 => match ws with
  | [.objs os] => some (os, h1)
  | _ => none
section
variable {X : Cx}
theorem di_enumO (hm : X.mg "enumerate" = none) {e : Expr} {elts : List Expr} {kk : Nat} {p pos tpos : Pos} {g : AM} (ha : DA X [e] g) (hg : Gl X "enumerate" := by rfl) (hs : starEach [e] X.env = [(false, eval e X.env)] := by rfl) : PI X (.Tuple elts kk tpos) (.Call (.Name "enumerate" p) [e] [] pos) (tIx (enumO g)) := (pi_enum hg hm ha hs).weak fun σ H R => by
  rintro ⟨M, h, ρ, ds, h', r, rs, e0, k⟩
  unfold enumO at e0
  cases eg : g ρ h with
  | none => rw [eg] at e0; cases e0
  | some pr =>
    obtain ⟨ws, h1⟩ := pr
    rw [eg] at e0
    simp only [obnd_some] at e0
    refine ⟨M, h, ρ, r, rs, ws, h1, eg, fun M1 H1 vs x1 r1 v1 => ?_⟩
    split at e0
    · cases e0
      obtain ⟨v, rfl, rv⟩ := rvs1 v1
      obtain ⟨a, xs, rfl, n, ha', qa⟩ := (show RWs M1 H1 v _ from rv)
      exact ⟨_, _, rfl, .of ha', k M1 H1 _ x1 r1 (itx_enum n ha' qa)⟩
    · cases e0
end
def forE (k : TMw) (body : SM) : Nat → List OI → Env → Hh → Option (Out × Hh)
  | _, [], ρ, h => some (.nx ρ, h)
  | i, d :: ds, ρ, h => match k [.dat (.int (i : Int)), d.w] ρ h with
    | some ρ1 => match body ρ1 h with
      | some (.nx ρ2, h2) => forE k body (i + 1) ds ρ2 h2
      | some (.ct ρ2, h2) => forE k body (i + 1) ds ρ2 h2
      | some (.bk ρ2, h2) => some (.nx ρ2, h2)
      | some (.rt w, h2) => some (.rt w, h2)
      | none => none
    | none => none
def sForE (gi : IMo) (k : TMw) (body : SM) : SM := fun ρ h => sbnd (gi ρ h) fun ds h1 => forE k body 0 ds ρ h1
theorem forE_imp {K : PySem.W.Frag} {gi : IMo} {k : TMw} {body : SM} {ts : List Nat} : ∀ D σ H, tS (sForE gi k body) D σ H → tFor (tIx gi) (tGp K 2 ts k) (tS body) D σ H := fun D σ H => by
  rintro ⟨M, h, ρ, r, rs, p⟩
  obtain ⟨ds, h1, e1, p1⟩ := p.bind
  refine ⟨M, h, ρ, ds, h1, r, rs, e1, fun M1 H1 J x1 r1 it => ?_⟩
  have p2 := p1.mono x1.same x1.ext
  let P : Nat → L2.St → Hp → Prop := fun i σi Hi => ∃ Mi hi ρi, Mi.u = M1.u ∧ Ext M1 Mi H1 Hi ∧ Rep Mi Hi hi ∧ RS Mi Hi ρi σi ∧ SPost D Mi Hi (forE k body i (ds.drop i) ρi hi)
  refine ⟨fun i n σi Hi => n + i = ds.length ∧ P i σi Hi, ⟨ds.length, by omega, M1, h1, ρ, rfl, .refl _ _, r1, rs.mono x1, by rw [List.drop_zero]; exact p2⟩, fun i n σi Hi w => ?_⟩
  obtain ⟨hn, Mi, hi, ρi, ui, xi, ri, rsi, pi⟩ := w
  obtain ⟨ity, its⟩ := it Mi Hi xi fun a ha => ri.tracked ha
  by_cases hlt : i < ds.length
  · refine .inr ?_
    have ed : ds[i]? = some ds[i] := List.getElem?_eq_getElem hlt
    obtain ⟨go, yl⟩ := ity i _ ed
    rw [List.drop_eq_getElem_cons hlt] at pi
    refine ⟨go, P (i + 1), fun σ' H' q => ⟨n - 1, by omega, by omega, q⟩, fun x H2 hy => ?_⟩
    obtain ⟨sm, T, u, rfl, hT, rx⟩ := yl x H2 hy
    obtain ⟨ri2, xi2⟩ := ri.grow sm
    unfold forE at pi
    split at pi
    · rename_i ρ1 ek
      refine ⟨T, [.int (i : Int), u], rfl, .of hT, rfl, Mi, hi, ρi, [.dat (.int (i : Int)), ds[i].w], ρ1, ri2, rsi.mono xi2, .cons (.int _) (.cons (roi_rv rx) .nil), ek, fun σ2 rs2 _ _ => ⟨Mi, hi, ρ1, ri2, rs2, ?_⟩⟩
      have pi' := pi.mono rfl xi2.ext
      cases eb : body ρ1 hi with
      | none => rw [eb] at pi'; exact pi'.elim
      | some q =>
        obtain ⟨o, h3⟩ := q
        rw [eb] at pi'
        cases o with
        | nx ρ2 => exact fun M3 H3 σ3 u3 x3 r3 rs3 => ⟨M3, h3, ρ2, u3.trans ui, (xi.trans xi2.ext).trans x3, r3, rs3, SPost.mono pi' u3 x3⟩
        | ct ρ2 => exact fun M3 H3 σ3 u3 x3 r3 rs3 => ⟨M3, h3, ρ2, u3.trans ui, (xi.trans xi2.ext).trans x3, r3, rs3, SPost.mono pi' u3 x3⟩
        | bk ρ2 => exact pi'
        | rt w => exact pi'
    · exact pi.elim
  · refine .inl ?_
    have hi' : i = ds.length := by omega
    subst hi'
    rw [List.drop_length] at pi
    exact ⟨its, pi Mi Hi σi rfl (.refl _ _) ri rsi⟩
section
variable {X : Cx}
theorem ds_forE {tgs : List Expr} {kk : Nat} {tpos : Pos} {iter : Expr} {body : List Stmt} {pos : Pos} {gi : IMo} {k : TMw} {ts : List Nat} {f : SM} (hc : X.calm = true) (hp : PassesOwn (model X.prog X.w) X.A X.env X.xe) (hi : PI X (.Tuple tgs kk tpos) iter (tIx gi)) (hg : PG X (.Tuple tgs kk tpos) (tGp X.K 2 ts k)) (hb : DSs X body f) (hs : ∀ x, foldedSetIterable iter X.env x = pure x := by intro _; rfl) : DS X (.For (.Tuple tgs kk tpos) iter body [] pos) (sForE gi k f) :=
  (ps_for hp hc hi hg hb hs).weak forE_imp
end
end DL
set_option maxRecDepth 100000
set_option maxHeartbeats 1000000
namespace PySem
namespace HandSPX
open Builtin Builtin.ObjectAttr
section
variable {M : Model} {A : Around} {E : Value → Shared → Prop} {h : Heap} {g : Array GenState} {d : Drawn} {t : Nat} {os : OsState}
variable {nm q : Str} {C N : Addr} {bs bm bmB : List Value} {hdct : Bool} {sn : List Str} {sub : List Value} {ab : Bool} {col : Option Bool} {dd : Option Addr} {k0 k1 k2 k3 k5 : Option Value} {B newId initId : String}
theorem kw_check_new (F : ExcBaseFacts B newId initId bmB) (hT : ∀ X : String, bm.contains (.type X) = bmB.contains (.type X)) {kw : List (Str × Value)} {Q : Unit → Shared → Prop}
    (hC : h.get? C = some (excClassObj nm q C N bs bm hdct sn sub ab col dd k0 k1 k2 k3 k5 newId)) (hq : Q () ⟨h, g, d, t, os⟩) : wpAny M A (checkBuiltinCall newId ⟨[.ref C], kw⟩) Q E ⟨h, g, d, t, os⟩ := by
  have hB : (Value.ref C :: bm).contains (.type B) = true := by rw [List.contains_cons, hT, F.hasB, Bool.or_true]
  have hs := F.noStar
  simp only [checkBuiltinCall, F.newKind, F.newSplit, F.newRow]
  repeat (first | refine wpAny_loadPart_at hC ?_ | (refine wpAny_isSubtype_exc hC ?_; rw [hB]) | refine wpAny_staticBase_exc hC ?_ | refine wpAny_madeBy_exc hC ?_ | simp only [bne_self_eq_false, Bool.false_eq_true, if_false] | wp_step)
  exact hq
end
section
variable {prog : Program} {w : World} {A : Around} {E : Value → Shared → Prop} {R : Result → Shared → Prop} {h : Heap} {g : Array GenState} {d : Drawn} {t : Nat} {os : OsState}
variable {nm q : Str} {C N : Addr} {bs bm bmB : List Value} {hdct : Bool} {sn : List Str} {sub : List Value} {ab : Bool} {col : Option Bool} {dd : Option Addr} {k0 k1 k2 k3 k5 : Option Value} {B newId initId : String} {kw : List (Str × Value)}
theorem kw_new (F : ExcBaseFacts B newId initId bmB) (hT : ∀ X : String, bm.contains (.type X) = bmB.contains (.type X))
    (hC : h.get? C = some (excClassObj nm q C N bs bm hdct sn sub ab col dd k0 k1 k2 k3 k5 newId))
    (hq : R (.ok (.ret (.ref (h.objs.size + 1)))) ⟨(h.push (W.kdv_tup [])).push (excO C h.objs.size), g, d, t, os⟩) :
    codeAny (model prog w) A (.builtin newId ⟨[.ref C], kw⟩) R ⟨h, g, d, t, os⟩ := by
  have ends := F.ends
  have cB : (Value.ref C :: bm).contains (.type B) = true := by rw [List.contains_cons, hT, F.hasB, Bool.or_true]
  have cA : (Value.ref C :: bm).contains (.type "AttributeError") = false := by rw [List.contains_cons, hT, F.noAttr]; rfl
  have cN : (Value.ref C :: bm).contains (.type "NameError") = false := by rw [List.contains_cons, hT, F.noName]; rfl
  refine codeAny_builtinAt F.entry ?_
  unfold Builtin.«BaseException.__new__»
  refine wpAt_bind ?_
  show wpAt _ _ _ (stack >>= _) _ _ _
  refine wpAt_bind (wpAt_stack fun p below => wpAt_of_wpAny ?_)
  wp_walk
  refine wpAt_of_wpAny ?_
  rw [F.owner]
  repeat (first | with_reducible refine wpAny_madeHere_exc F.canon hC ?_ | with_reducible refine wpAny_loadPart_at hC ?_ | (with_reducible refine wpAny_isSubtype_exc hC ?_; first | rw [cB] | rw [cA] | rw [cN]) | wp_step)
  show R _ _
  rw [Heap.size_push]
  exact hq
theorem kw_type_call (F : ExcBaseFacts B newId initId bmB) (hT : ∀ X : String, bm.contains (.type X) = bmB.contains (.type X)) {fI : Addr} {Q : Fin → Shared → Prop}
    (hC : h.get? C = some (excClassObj nm q C N bs bm hdct sn sub ab col dd k0 k1 k2 k3 k5 newId))
    (hi : W.Looks (model prog w) h (typeLookup (.ref C) "__init__") (some (.ref fI))) (hb : ∀ self, W.Looks (model prog w) h (bindSpecial (.ref fI) self) (.ref fI, [self]))
    (hq : codeAny (model prog w) A (.call (.ref fI) ⟨[.ref (h.objs.size + 1)], kw⟩)
      (fun r s' => match r with | .ok (.ret v) => v = .none ∧ Q (.done (.ret (.ref (h.objs.size + 1)))) s' | .ok _ => False | .error e => E e s')
      ⟨(h.push (W.kdv_tup [])).push (excO C h.objs.size), g, d, t, os⟩) :
    wpAny (model prog w) A (Builtin.«type.__call__» ⟨[.ref C], kw⟩) Q E ⟨h, g, d, t, os⟩ := by
  repeat (first | with_reducible refine wpAny_loadPart_at hC ?_ | with_reducible refine wpAny_madeBy_exc hC ?_ | wp_step)
  refine codeAny_call_builtin_code (Code.quiet_builtin _ F.quiet) (kw_check_new F hT hC ?_)
  refine kw_new F hT hC ?_
  show wpAny _ _ _ _ _ _
  have k : ∀ b o, h.get? b = some o → ((h.push (W.kdv_tup [])).push (excO C h.objs.size)).get? b = some o := fun b o e => Heap.get?_push_of_some _ (Heap.get?_push_of_some _ e)
  have c1 := k _ _ hC
  have hget : ((h.push (W.kdv_tup [])).push (excO C h.objs.size)).get? (h.objs.size + 1) = some (excO C h.objs.size) := by heap_get
  have cC : (Value.ref C :: bm).contains (.ref C) = true := by simp
  have i1 := hi.keeps k
  have b1 := (hb (.ref (h.objs.size + 1))).keeps k
  unfold isInstance
  repeat (first | with_reducible refine wpAny_loadPart_at hget ?_ | (with_reducible refine wpAny_isSubtype_exc c1 ?_; rw [cC]) | wp_step)
  show wpAny _ _ (typeLookup (.ref C) _) _ _ _
  refine i1.at ?_
  refine wpAny_holding (wpAny_bind (b1.at ?_))
  refine wpAny_bind (wpAny_call (codeAny_mono hq fun r s' z => ?_))
  rcases r with e | (v | _ | _ | _) <;> first | exact z | exact z.elim | skip
  obtain ⟨rfl, z⟩ := z
  first
    | exact wpAny_pure (wpAny_pure z)
    | (wp_walk; exact z)
theorem kw_check_type {M : Model} {Q : Unit → Shared → Prop} (hC : h.get? C = some (excClassObj nm q C N bs bm hdct sn sub ab col dd k0 k1 k2 k3 k5 newId)) (hq : Q () ⟨h, g, d, t, os⟩) : wpAny M A (checkBuiltinCall "type.__call__" ⟨[.ref C], kw⟩) Q E ⟨h, g, d, t, os⟩ := by
  have f3 := tc_sub
  have hTy : (⟨h, g, d, t, os⟩ : Shared).TypeIs (.ref C) "type" := ⟨_, hC, rfl⟩
  simp only [checkBuiltinCall, tc_kind, tc_split]
  repeat (any_goals (first | assumption | with_reducible refine wpAny_loadPart_at hC ?_ | with_reducible refine wpAny_onRaise ?_ | with_reducible refine wpAny_map ?_ | wp_step))
theorem kw_call (F : ExcBaseFacts B newId initId bmB) (hT : ∀ X : String, bm.contains (.type X) = bmB.contains (.type X)) {fI : Addr}
    (hC : h.get? C = some (excClassObj nm q C N bs bm hdct sn sub ab col dd k0 k1 k2 k3 k5 newId))
    (hi : W.Looks (model prog w) h (typeLookup (.ref C) "__init__") (some (.ref fI))) (hb : ∀ self, W.Looks (model prog w) h (bindSpecial (.ref fI) self) (.ref fI, [self]))
    (hq : codeAny (model prog w) (A.under (.builtin "type.__call__" ⟨[.ref C], kw⟩)) (.call (.ref fI) ⟨[.ref (h.objs.size + 1)], kw⟩) (W.InitBack (h.objs.size + 1) R)
      ⟨(h.push (W.kdv_tup [])).push (excO C h.objs.size), g, d, t, os⟩) :
    codeAny (model prog w) A (.call (.ref C) ⟨[], kw⟩) R ⟨h, g, d, t, os⟩ := by
  have f1 := tc_lookup
  have f2 := tc_bind (.ref C)
  have hTy : (⟨h, g, d, t, os⟩ : Shared).TypeIs (.ref C) "type" := ⟨_, hC, rfl⟩
  refine codeAny_of_tree ?_
  show wpAny _ _ (callAny (.ref C) _) _ _ _
  repeat (any_goals (first | assumption | with_reducible refine wpAny_loadPart_at hC ?_ | wp_step))
  refine ⟨rfl, ?_⟩
  refine codeAny_call_builtin_at (Code.quiet_builtin _ (by decide +kernel)) entry_typeCall (kw_check_type hC (kw_type_call F hT hC hi hb ?_))
  refine codeAny_mono hq fun r s' z => ?_
  rcases r with e | (v | _ | _ | _) <;> exact z
end
end HandSPX
end PySem
namespace DL
open PySem PySem.Spec PyProof.Rows L2
variable [HW]
structure UE1K (K : PySem.W.Frag) (mg : Str → Option Value) (C : Addr) (x f n : Str) : Prop where
  at_ : mg x = some (.ref C)
  ex : ∃ (B nI iI : String) (bm : List Value) (fI : Addr) (fd : FuncData), ExcBaseFacts B nI iI bm ∧ OexG K C bm nI ∧ PySem.W.findIn K (.ref C) "__init__" = some (some (.ref fI)) ∧ PySem.W.typeIn K (.ref fI) = some (.type "function") ∧
    (∀ (s : Shared) (u0 u : Value), BindsTo s fd ⟨[u0], [(n, u)]⟩ ([("self" : Str), n].zip [u0, u])) ∧ ∀ (P : Program) (w : World) (base : Heap), FnG P w K mg base CX0 1 fI fd ["self", n] (spI C f)
theorem bindsK_of {K : PySem.W.Frag} {q n : Str} {st : Stmt} {f : Addr} {fd : FuncData} (F : Fun K "__init__" q st f fd)
    (hk : ∀ (kV doc pm : Value) (an : Option Addr) (cdv ct u0 u : Value), bindArgs (PySem.W.fnOf "__init__" q (defArgs st) (defBody st) (defScope st) .none kV doc pm an cdv ct) ⟨[u0], [(n, u)]⟩ = pure ([("self" : Str), n].zip [u0, u])) : ∀ (s : Shared) (u0 u : Value), BindsTo s fd ⟨[u0], [(n, u)]⟩ ([("self" : Str), n].zip [u0, u]) := fun s u0 u => by
  obtain ⟨oc, od, kV, doc, pm, an, cdv, ct, osl, rfl, lk, hcd⟩ := F.ex
  exact .of_eq (hk kV doc pm an cdv ct u0 u)
def fNewEK (k : Nat) (C : Addr) (fl : Str) (ga : AM) : EM := fun ρ h => obnd (ga ρ h) fun ws h1 => match ws with
  | [.dat d] => some (.exc k C [(fl, d)], h1)
  | _ => none
def tNewK (C : Addr) (fl : Str) (Q : VK) : List V → Hp → Prop := fun vs H1 => match vs with
  | [y] => ∀ a d, H1 a = none → H1 d = none → a ≠ d → Q (.ref a) (upd (upd H1 d (.xd [(fl, y)])) a (XO C (some d) a))
  | _ => False
section
variable {X : Cx} {C : Addr} {x fl n0 : Str} {ga : AM} {p pos : Pos} {kws : List Keyword}
theorem newEK_pre {k : Nat} {σ : L2.St} {H : Hp} {Q : VK} (q : tE (fNewEK k C fl ga) σ H Q) : tA ga σ H (tNewK C fl Q) := by
  obtain ⟨M, h, ρ, r, rs, c⟩ := q
  obtain ⟨ws, h1, e1, c1⟩ := Cont.bind (δ := Unit) c
  refine ⟨M, h, ρ, r, rs, ws, h1, e1, fun M1 H1 vs x1 r1 rv => ?_⟩
  have c2 := c1 M1 H1 x1
  split at c2
  · rename_i d0
    obtain ⟨v, rfl, rv0⟩ := rvs1 rv
    show ∀ a d, _
    intro a d na nd ne
    have sm : Same H1 (upd (upd H1 d (.xd [(fl, v)])) a (XO C (some d) a)) := fun b o e => by
      by_cases z : b = a
      · subst z; rw [na] at e; cases e
      · rw [upd_ne z]
        by_cases z2 : b = d
        · subst z2; rw [nd] at e; cases e
        · rw [upd_ne z2]; exact e
    obtain ⟨ri, xi⟩ := r1.grow sm
    refine c2.fin xi ri ⟨a, some d, [(fl, v)], rfl, new_out (fun b hb => r1.tracked hb) na, upd_same, ⟨new_out (fun b hb => r1.tracked hb) nd, by rw [upd_ne (Ne.symm ne), upd_same]⟩, ?_⟩
    exact .cons ⟨rfl, RD.mono xi.ext rv0⟩ .nil
  · exact c2.no.elim
theorem d_newEK {k : Nat} (u : UE1K X.K X.mg C x fl n0) (hr : RG 2 X.A) (ha : DK X kws ga)
    (hall : (backToKw pos (keywordEach kws X.env)).all (·.1.isSome) = true := by rfl) (hks : (backToKw pos (keywordEach kws X.env)).filterMap (·.1) = [n0] := by rfl)
    (hpl : ((backTo pos (starEach [] X.env)).any (·.1) || (backToKw pos (keywordEach kws X.env)).any (·.1.isNone)) = false := by rfl)
    (hg : Gl X x := by rfl) (hdb : (x == ("__debug__" : Str)) = false := by decide) : DE X (.Call (.Name x p) [] kws pos) (fNewEK k C fl ga) := by
  refine ⟨fun pins s σ H Q I h => ?_⟩
  obtain ⟨B, nI, iI, bm, fI, fd, BF, T, iC, tI, hbd, F0⟩ := u.ex
  have F1 := F0 X.prog X.w X.base
  obtain ⟨nm, q, N, bs, b, sn, sub, ab, col, dd, k0, k1, k2, k3, k5, hdct, hC, hT⟩ := class_at T
  refine wpAny_Call_Name_kw (ld_glob I hg u.at_ ?_ hdb)
  refine PySem.W.callWith_KW0 (h₀ := X.base) I.ok.mod.kin T.kC hall ?_ hpl
  refine thn (ha.run pos pins s σ H _ I (newEK_pre h)) fun us s1 ⟨vs, H1, I1, r1, q1⟩ => ⟨I1.kIn, ?_⟩
  obtain ⟨y, rfl⟩ : ∃ y, vs = [y] := by
    match vs, q1 with
    | [y], _ => exact ⟨y, rfl⟩
  replace q1 : ∀ a d, H1 a = none → H1 d = none → a ≠ d → Q (.ref a) (upd (upd H1 d (.xd [(fl, y)])) a (XO C (some d) a)) := q1
  obtain ⟨u0, rfl, ry⟩ := vals1 r1
  rw [hks]
  obtain ⟨hp, g, dr, tk, os⟩ := s1
  have hsz : hp.objs.size ≤ hp.objs.size + 1 := Nat.le_succ _
  have hn : H1 (hp.objs.size + 1) = none := I1.hok.fresh hsz
  have kk : ∀ b o, hp.get? b = some o → ((hp.push (PySem.W.kdv_tup [])).push (PySem.HandSPX.excO C hp.objs.size)).get? b = some o := fun b o e => Heap.get?_push_of_some _ (Heap.get?_push_of_some _ e)
  have hget : ((hp.push (PySem.W.kdv_tup [])).push (PySem.HandSPX.excO C hp.objs.size)).get? (hp.objs.size + 1) = some (PySem.HandSPX.excO C hp.objs.size) := by heap_get
  have I2 : L2.Inv X pins σ (upd H1 (hp.objs.size + 1) (exo (hp.objs.size + 1) C none)) ⟨(hp.push (PySem.W.kdv_tup [])).push (PySem.HandSPX.excO C hp.objs.size), g, dr, tk, os⟩ :=
    I1.laid (t' := tk) kk hsz (exo_ok hget)
  let QQ : VK := fun v H2 => v = .non ∧ ∃ (d : Addr), H1 d = none ∧ d ≠ hp.objs.size + 1 ∧ H2 = upd (upd (upd H1 (hp.objs.size + 1) (exo (hp.objs.size + 1) C none)) d (exd d [(fl, y)])) (hp.objs.size + 1) (exo (hp.objs.size + 1) C (some d))
  have hq : spI C fl [.ref (hp.objs.size + 1), y] (upd H1 (hp.objs.size + 1) (exo (hp.objs.size + 1) C none)) QQ E0 := ⟨hp.objs.size + 1, y, rfl, upd_same, fun dx nd ne => by
    rw [upd_ne ne] at nd
    exact ⟨rfl, dx, nd, ne, rfl⟩⟩
  have r2 : Vals [V.ref (hp.objs.size + 1), y] [Value.ref (hp.objs.size + 1), u0] := .cons rfl (.cons ry .nil)
  have bd := hbd { heap := (hp.push (PySem.W.kdv_tup [])).push (PySem.HandSPX.excO C hp.objs.size), gens := g, drawn := dr, toks := tk, os := os } (Value.ref (hp.objs.size + 1)) u0
  refine wpAny_call (PySem.HandSPX.kw_call BF hT (I1.kIn _ _ hC) (PySem.W.looks_findIn I1.kIn iC) (fun self => PySem.W.bind_fn I1.kIn self tI)
    (codeAny_mono (F1.run _ X.stack _ _ ⟨[Value.ref (hp.objs.size + 1)], [(n0, u0)]⟩ [Value.ref (hp.objs.size + 1), u0] _ QQ E0 ⟨hr.room.make C [] [(n0, u0)], hr.gd⟩ (I2.env0.make C [] [(n0, u0)]) bd r2 hq) fun r s' hq' => ?_))
  cases r with
  | error er => exact False.elim hq'
  | ok fl' =>
    cases fl' with
    | ret u =>
      obtain ⟨v, H2, os2, bare2, un2, hok2, rv, ev, d, nd, dne, eh⟩ := hq'
      subst ev
      obtain ⟨h2, g2, d2, t2, os'⟩ := s'
      have os2' : os' = os := os2
      subst os2'
      have J := I2.call (t' := t2) (d' := d2) (ch := []) un2 hok2 bare2 (fun b hb => nomatch hb)
      have ea : H2 (hp.objs.size + 1) = some (exo (hp.objs.size + 1) C (some d)) := by rw [eh, upd_same]
      have ed : H2 d = some (exd d [(fl, y)]) := by rw [eh, upd_ne dne, upd_same]
      have L := err_laid J ea ed (Ne.symm dne)
      have eq : upd (upd H2 d (.xd [(fl, y)])) (hp.objs.size + 1) (XO C (some d) (hp.objs.size + 1)) = upd (upd H1 d (.xd [(fl, y)])) (hp.objs.size + 1) (XO C (some d) (hp.objs.size + 1)) := funext fun b => by
        by_cases z : b = hp.objs.size + 1
        · subst z; rw [upd_same, upd_same]
        rw [upd_ne z, upd_ne z]
        by_cases z2 : b = d
        · subst z2; rw [upd_same, upd_same]
        rw [upd_ne z2, upd_ne z2, eh, upd_ne z, upd_ne z2, upd_ne z]
      exact ⟨rv, .ref (hp.objs.size + 1), _, L, rfl, by rw [eq]; exact q1 _ d hn nd (Ne.symm dne)⟩
    | next => exact False.elim hq'
    | brk => exact False.elim hq'
    | cont => exact False.elim hq'
end
theorem bt_IE : bootBuiltins "IndexError" = some (.type "IndexError") := by decide +kernel
theorem bt_NE : bootBuiltins "NotImplementedError" = some (.type "NotImplementedError") := by decide +kernel
theorem bt_OE : bootBuiltins "OverflowError" = some (.type "OverflowError") := by decide +kernel
theorem km_IE : PySem.W.kitMeta "IndexError" = true := by decide +kernel
theorem km_NE : PySem.W.kitMeta "NotImplementedError" = true := by decide +kernel
theorem km_OE : PySem.W.kitMeta "OverflowError" = true := by decide +kernel
end DL
set_option maxRecDepth 100000
set_option maxHeartbeats 400000
namespace DL
open PySem L2
variable [HW]
@[reducible] def Dm {α : Sort u} (_ : α) : Type := Unit
def ob {α β : Type} (k : α → Hh → Option (β × Hh)) (u : Dm k) (r : Option (α × Hh)) : Option (β × Hh) := obnd r k
theorem obnd_x {α β : Type} (r : Option (α × Hh)) (k : α → Hh → Option (β × Hh)) : obnd r k = ob k () r := rfl
theorem ob_some {α β : Type} (k : α → Hh → Option (β × Hh)) (u : Dm k) (a : α) (h : Hh) : ob k u (some (a, h)) = k a h := rfl
def sb {α : Type} (k : α → Hh → Option (Out × Hh)) (u : Dm k) (r : Option (α × Hh)) : Option (Out × Hh) := sbnd r k
theorem sbnd_x {α : Type} (r : Option (α × Hh)) (k : α → Hh → Option (Out × Hh)) : sbnd r k = sb k () r := rfl
theorem sb_some {α : Type} (k : α → Hh → Option (Out × Hh)) (u : Dm k) (a : α) (h : Hh) : sb k u (some (a, h)) = k a h := rfl
def seqK (g : SM) (u : Dm g) (r : Option (Out × Hh)) : Option (Out × Hh) := match r with
  | some (.nx ρ1, h1) => g ρ1 h1
  | r => r
theorem sSeq_e (f g : SM) (ρ : Env) (h : Hh) : sSeq f g ρ h = seqK g () (f ρ h) := rfl
theorem seqK_nx (g : SM) (u : Dm g) (ρ : Env) (h : Hh) : seqK g u (some (.nx ρ, h)) = g ρ h := rfl
theorem seqK_rt (g : SM) (u : Dm g) (w : W) (h : Hh) : seqK g u (some (.rt w, h)) = some (.rt w, h) := rfl
theorem seqK_bk (g : SM) (u : Dm g) (ρ : Env) (h : Hh) : seqK g u (some (.bk ρ, h)) = some (.bk ρ, h) := rfl
theorem seqK_ct (g : SM) (u : Dm g) (ρ : Env) (h : Hh) : seqK g u (some (.ct ρ, h)) = some (.ct ρ, h) := rfl
def frK (g : SM) (u : Dm g) (r : Option (Env × Hh)) : Option (Out × Hh) := match r with
  | some (ρ, h) => g ρ h
  | none => none
theorem sFrz_e (i : Nat) (f : SM) (ρ : Env) (h : Hh) : sFrz i f ρ h = frK f () (frz i ρ h) := rfl
theorem frK_some (g : SM) (u : Dm g) (ρ : Env) (h : Hh) : frK g u (some (ρ, h)) = g ρ h := rfl
theorem isR_ref (n m : Nat) : isR n (some (.ref m)) = decide (m = n) := rfl
theorem isR_dat (n : Nat) (d : D) : isR n (some (.dat d)) = false := rfl
theorem isR_scr (n : Nat) (d : List Int) : isR n (some (.scr d)) = false := rfl
theorem isR_none (n : Nat) : isR n none = false := rfl
def retK (rm : Bool) (h : Hh) (r : Option (Out × Hh)) : Option (W × Hh) := match r with
    | some (.rt w, h') => leave rm h w h'
    | some (.nx _, h') => leave rm h (.dat .none) h'
    | _ => none
theorem retK_rt (rm : Bool) (h : Hh) (w : W) (h' : Hh) : retK rm h (some (.rt w, h')) = leave rm h w h' := rfl
theorem retK_nx (rm : Bool) (h : Hh) (ρ : Env) (h' : Hh) : retK rm h (some (.nx ρ, h')) = leave rm h (.dat .none) h' := rfl
def iteK {α : Type} (x y : α) (u : Dm (x, y)) (b : Bool) : α := if b = true then x else y
theorem ite_x {α : Type} (b : Bool) (x y : α) : (if b = true then x else y) = iteK x y () b := rfl
theorem iteK_t {α : Type} (x y : α) (u : Dm (x, y)) : iteK x y u true = x := rfl
theorem iteK_f {α : Type} (x y : α) (u : Dm (x, y)) : iteK x y u false = y := rfl
theorem subW_e (x y : W) (h : Hh) : subW x y h = intW (fun _ _ => true) (fun i j => i - j) x y h := rfl
theorem modW_e (x y : W) (h : Hh) : modW x y h = intW (fun _ j => decide (0 < j)) (fun i j => i % j) x y h := rfl
theorem divW_e (x y : W) (h : Hh) : divW x y h = intW (fun _ j => decide (0 < j ∧ j < 1073741824)) (fun i j => i / j) x y h := rfl
theorem powW_e (x y : W) (h : Hh) : powW x y h = intW (fun i j => decide (0 ≤ j ∧ j ≤ 1000000 ∧ i.natAbs < 18446744073709551616)) (fun i j => i ^ j.toNat) x y h := rfl
theorem lt_e (x y : W) (h : Hh) : lt_W x y h = ltW (fun i j => decide (i < j)) (fun i j => decide (i < j)) x y h := rfl
theorem gt_e (x y : W) (h : Hh) : gt_W x y h = ltW (fun i j => decide (j < i)) (fun i j => decide (j < i)) x y h := rfl
theorem le_e (x y : W) (h : Hh) : le_W x y h = ltW (fun i j => decide (i ≤ j)) (fun i j => !decide (j < i)) x y h := rfl
theorem ge_e (x y : W) (h : Hh) : ge_W x y h = ltW (fun i j => decide (j ≤ i)) (fun i j => !decide (i < j)) x y h := rfl
theorem allW_e (ws : List W) (h : Hh) : allW ws h = lW bools (fun bs => .bool (bs.all id)) ws h := rfl
theorem anyW_e (ws : List W) (h : Hh) : anyW ws h = lW bools (fun bs => .bool (bs.any id)) ws h := rfl
theorem sumW_e (ws : List W) (h : Hh) : sumW ws h = lW intsD (fun bs => .int bs.sum) ws h := rfl
theorem fnM_e (rm : Bool) (np nl : Nat) (body : SM) (ws : List W) (h : Hh) (e : ws.length = np) : fnM rm np nl body ws h = retK rm h (body (ws.map some ++ List.replicate (nl - np) none) h) := by
  unfold fnM
  rw [if_pos e]
  rfl
theorem iLT_none : (["list", "tuple"].any fun t => isT1 t (.none : D)) = false := by rfl
theorem iLT_bool (b : Bool) : (["list", "tuple"].any fun t => isT1 t (.bool b : D)) = false := by rfl
theorem iLT_int (i : Int) : (["list", "tuple"].any fun t => isT1 t (.int i : D)) = false := by rfl
theorem iLT_str (s : Str) : (["list", "tuple"].any fun t => isT1 t (.str s : D)) = false := by rfl
theorem iLT_list (ds : List D) : (["list", "tuple"].any fun t => isT1 t (.list ds : D)) = true := by rfl
theorem iLT_tup (ds : List D) : (["list", "tuple"].any fun t => isT1 t (.tuple ds : D)) = true := by rfl
theorem iL_none : (["list"].any fun t => isT1 t (.none : D)) = false := by rfl
theorem iL_bool (b : Bool) : (["list"].any fun t => isT1 t (.bool b : D)) = false := by rfl
theorem iL_int (i : Int) : (["list"].any fun t => isT1 t (.int i : D)) = false := by rfl
theorem iL_str (s : Str) : (["list"].any fun t => isT1 t (.str s : D)) = false := by rfl
theorem iL_list (ds : List D) : (["list"].any fun t => isT1 t (.list ds : D)) = true := by rfl
theorem iL_tup (ds : List D) : (["list"].any fun t => isT1 t (.tuple ds : D)) = false := by rfl
theorem iT_none : (["tuple"].any fun t => isT1 t (.none : D)) = false := by rfl
theorem iT_bool (b : Bool) : (["tuple"].any fun t => isT1 t (.bool b : D)) = false := by rfl
theorem iT_int (i : Int) : (["tuple"].any fun t => isT1 t (.int i : D)) = false := by rfl
theorem iT_str (s : Str) : (["tuple"].any fun t => isT1 t (.str s : D)) = false := by rfl
theorem iT_list (ds : List D) : (["tuple"].any fun t => isT1 t (.list ds : D)) = false := by rfl
theorem iT_tup (ds : List D) : (["tuple"].any fun t => isT1 t (.tuple ds : D)) = true := by rfl
theorem iS_none : (["str"].any fun t => isT1 t (.none : D)) = false := by rfl
theorem iS_bool (b : Bool) : (["str"].any fun t => isT1 t (.bool b : D)) = false := by rfl
theorem iS_int (i : Int) : (["str"].any fun t => isT1 t (.int i : D)) = false := by rfl
theorem iS_str (s : Str) : (["str"].any fun t => isT1 t (.str s : D)) = true := by rfl
theorem iS_list (ds : List D) : (["str"].any fun t => isT1 t (.list ds : D)) = false := by rfl
theorem iS_tup (ds : List D) : (["str"].any fun t => isT1 t (.tuple ds : D)) = false := by rfl
theorem iI_none : (["int"].any fun t => isT1 t (.none : D)) = false := by rfl
theorem iI_bool (b : Bool) : (["int"].any fun t => isT1 t (.bool b : D)) = true := by rfl
theorem iI_int (i : Int) : (["int"].any fun t => isT1 t (.int i : D)) = true := by rfl
theorem iI_str (s : Str) : (["int"].any fun t => isT1 t (.str s : D)) = false := by rfl
theorem iI_list (ds : List D) : (["int"].any fun t => isT1 t (.list ds : D)) = false := by rfl
theorem iI_tup (ds : List D) : (["int"].any fun t => isT1 t (.tuple ds : D)) = false := by rfl
theorem iB_none : (["bool"].any fun t => isT1 t (.none : D)) = false := by rfl
theorem iB_bool (b : Bool) : (["bool"].any fun t => isT1 t (.bool b : D)) = true := by rfl
theorem iB_int (i : Int) : (["bool"].any fun t => isT1 t (.int i : D)) = false := by rfl
theorem iB_str (s : Str) : (["bool"].any fun t => isT1 t (.str s : D)) = false := by rfl
theorem iB_list (ds : List D) : (["bool"].any fun t => isT1 t (.list ds : D)) = false := by rfl
theorem iB_tup (ds : List D) : (["bool"].any fun t => isT1 t (.tuple ds : D)) = false := by rfl
theorem lcL_map {k : TM} {t : BM} {f : EM} {ρ : Env} {h : Hh} (p : D → Bool) (g : D → D) : ∀ {ds : List D}, (∀ d ∈ ds, ∃ ρ1, k (.dat d) ρ h = some ρ1 ∧ t ρ1 h = some (p d, h) ∧ (p d = true → f ρ1 h = some (.dat (g d), h))) → lcL k t f ρ ds h = some ((ds.filter p).map g, h)
  | [], _ => rfl
  | d :: ds, H => by
    obtain ⟨ρ1, e1, e2, e3⟩ := H d List.mem_cons_self
    have ih := lcL_map (k := k) (t := t) (f := f) (ρ := ρ) (h := h) p g (ds := ds) fun e he => H e (List.mem_cons_of_mem _ he)
    unfold lcL
    simp only [e1, e2, obnd]
    cases hp : p d with
    | true =>
      simp only [if_true]
      rw [e3 hp]
      simp only [ih, List.filter_cons, hp, if_true, List.map_cons]
    | false => simp only [Bool.false_eq_true, if_false, ih, List.filter_cons, hp]
theorem lcL_all {k : TM} {t : BM} {f : EM} {ρ : Env} {h : Hh} (g : D → D) {ds : List D} (H : ∀ d ∈ ds, ∃ ρ1, k (.dat d) ρ h = some ρ1 ∧ t ρ1 h = some (true, h) ∧ f ρ1 h = some (.dat (g d), h)) : lcL k t f ρ ds h = some (ds.map g, h) := by
  have := lcL_map (k := k) (t := t) (f := f) (ρ := ρ) (h := h) (fun _ => true) g (ds := ds) fun d hd => by
    obtain ⟨ρ1, a, b, c⟩ := H d hd
    exact ⟨ρ1, a, b, fun _ => c⟩
  rwa [List.filter_eq_self.mpr (fun _ _ => rfl)] at this
theorem lcL_inv {k : TM} {f : EM} {ρ : Env} (I : Nat → Hh → Prop) (R : Nat → D → Prop) : ∀ {ds : List D} {n : Nat} {h : Hh}, I n h → (∀ (j : Nat) (d : D), ds[j]? = some d → ∀ h, I (n + j) h → ∃ ρ1 d' h', k (.dat d) ρ h = some ρ1 ∧ f ρ1 h = some (.dat d', h') ∧ R (n + j) d' ∧ I (n + j + 1) h') →
    ∃ rs h', lcL k bYes f ρ ds h = some (rs, h') ∧ rs.length = ds.length ∧ (∀ (j : Nat) (r : D), rs[j]? = some r → R (n + j) r) ∧ I (n + ds.length) h'
  | [], n, h, i, _ => ⟨[], h, rfl, rfl, (fun j r hr => by simp at hr), i⟩
  | d :: ds, n, h, i, H => by
    obtain ⟨ρ1, d', h1, e1, e2, r, i1⟩ := H 0 d rfl h i
    obtain ⟨rs, h2, e3, hl, hr, i2⟩ := lcL_inv (k := k) (f := f) (ρ := ρ) I R (ds := ds) (n := n + 1) i1 fun j e he h q => by
      have := H (j + 1) e (by simpa using he) h (by rw [← show n + 1 + j = n + (j + 1) by omega]; exact q)
      rw [show n + 1 + j = n + (j + 1) by omega]
      exact this
    refine ⟨d' :: rs, h2, ?_, by simp [hl], ?_, ?_⟩
    · unfold lcL
      simp only [e1, bYes, obnd, if_true, e2]
      rw [e3]
    · intro j x hx
      cases j with
      | zero => simp at hx; subst hx; exact r
      | succ j =>
        have := hr j x (by simpa using hx)
        rw [show n + 1 + j = n + (j + 1) by omega] at this
        exact this
    · rw [List.length_cons, show n + (ds.length + 1) = n + 1 + ds.length by omega]; exact i2
theorem forL_inv {k : TM} {body : SM} (I : Nat → Env → Hh → Prop) : ∀ {ds : List D} {n : Nat} {ρ : Env} {h : Hh}, I n ρ h → (∀ (j : Nat) (d : D), ds[j]? = some d → ∀ ρ h, I (n + j) ρ h → ∃ ρ1 ρ2 h2, k (.dat d) ρ h = some ρ1 ∧ body ρ1 h = some (.nx ρ2, h2) ∧ I (n + j + 1) ρ2 h2) →
    ∃ ρ' h', forL k body ds ρ h = some (.nx ρ', h') ∧ I (n + ds.length) ρ' h'
  | [], n, ρ, h, i, _ => ⟨ρ, h, rfl, i⟩
  | d :: ds, n, ρ, h, i, H => by
    obtain ⟨ρ1, ρ2, h2, e1, e2, i2⟩ := H 0 d rfl ρ h i
    obtain ⟨ρ', h', e3, i3⟩ := forL_inv (k := k) (body := body) I (ds := ds) (n := n + 1) i2 fun j e he ρ h q => by
      obtain ⟨a, b, c, x, y, z⟩ := H (j + 1) e (by simpa using he) ρ h (by rw [← show n + 1 + j = n + (j + 1) by omega]; exact q)
      exact ⟨a, b, c, x, y, by rw [show n + 1 + j + 1 = n + (j + 1) + 1 by omega]; exact z⟩
    refine ⟨ρ', h', ?_, by rw [List.length_cons, show n + (ds.length + 1) = n + 1 + ds.length by omega]; exact i3⟩
    unfold forL
    simp only [e1, e2, e3]
theorem getK_cons (e : D × D) (es : List (D × D)) (k : Key) : getK (e :: es) k = if dKey e.1 = some k then some e.2 else getK es k := by
  unfold getK
  rw [List.find?_cons]
  by_cases h : dKey e.1 = some k
  · simp [h]
  · simp [h]
def sdic (l : List (Str × D)) : List (D × D) := l.map fun p => (.str p.1, p.2)
theorem dKey_str (s : Str) : dKey (.str s) = some (.inr s) := rfl
theorem getK_sdic (s : Str) : ∀ l : List (Str × D), getK (sdic l) (.inr s) = l.lookup s
  | [] => rfl
  | (t, d) :: l => by
    show getK ((.str t, d) :: sdic l) (.inr s) = _
    rw [getK_cons, getK_sdic s l, List.lookup_cons, dKey_str]
    by_cases h : t = s
    · subst h; simp
    · have h1 : ¬ (some (Sum.inr t : Key) = some (Sum.inr s)) := fun z => h (by cases z; rfl)
      have h2 : (s == t) = false := by simpa using fun z => h z.symm
      rw [if_neg h1, h2]
theorem isT_sdic : ∀ l : List (Str × D), isT (sdic l) = false
  | [] => rfl
  | (t, d) :: l => rfl
theorem getD_sdic (l : List (Str × D)) (s : Str) : getD (sdic l) (.str s) = some (l.lookup s) := by
  unfold getD
  rw [isT_sdic, if_neg (by simp), dKey_str]
  simp [getK_sdic]
theorem sdic_snoc (l : List (Str × D)) (s : Str) (d : D) : sdic (l ++ [(s, d)]) = sdic l ++ [(.str s, d)] := by simp [sdic]
theorem putK_sdic {l : List (Str × D)} {s : Str} (d : D) (h : l.lookup s = none) : putK' (sdic l) (.inr s) d = sdic (l ++ [(s, d)]) := by
  unfold putK'
  rw [getK_sdic, h, sdic_snoc]
  rfl
theorem lookup_none {l : List (Str × D)} {s : Str} (h : s ∉ l.map (·.1)) : l.lookup s = none := by
  induction l with
  | nil => rfl
  | cons p l ih =>
    obtain ⟨t, d⟩ := p
    simp only [List.map_cons, List.mem_cons, not_or] at h
    rw [List.lookup_cons, show (s == t) = false by simpa using h.1]
    exact ih h.2
theorem dcL_sdic {k : TM} {fk fv : EM} {ρ : Env} {h : Hh} (g : D → Str × D) : ∀ {ds : List D} {l : List (Str × D)}, ((l ++ ds.map g).map (·.1)).Nodup → (l ++ ds.map g).length ≤ sizeLine →
    (∀ d ∈ ds, ∃ ρ1, k (.dat d) ρ h = some ρ1 ∧ fk ρ1 h = some (.dat (.str (g d).1), h) ∧ fv ρ1 h = some (.dat (g d).2, h)) → dcL k bYes fk fv ρ ds (sdic l) h = some (sdic (l ++ ds.map g), h)
  | [], l, _, _, _ => by simp [dcL]
  | d :: ds, l, hn, hl, H => by
    obtain ⟨ρ1, e1, e2, e3⟩ := H d List.mem_cons_self
    have hn' : (g d).1 ∉ l.map (·.1) := by
      rw [List.map_append, List.nodup_append] at hn
      intro z
      exact hn.2.2 _ z _ (by simp) rfl
    unfold dcL
    simp only [e1, bYes, obnd, if_true, e2, e3, dKey_str]
    have hlen : (sdic l).length < sizeLine := by
      simp only [sdic, List.length_map]
      simp only [List.length_append, List.length_map, List.length_cons] at hl
      omega
    rw [if_pos hlen, putK_sdic _ (lookup_none hn')]
    have ih := dcL_sdic (k := k) (fk := fk) (fv := fv) (ρ := ρ) (h := h) g (ds := ds) (l := l ++ [((g d).1, (g d).2)]) (by simpa using hn) (by simpa using hl) fun e he => H e (List.mem_cons_of_mem _ he)
    rw [ih]
    simp
end DL
set_option maxRecDepth 100000
namespace DL
open PySem L2
variable [HW]
noncomputable def m_look_alike : FM := fnM false 2 2 (sIf (fB (f2 (eqW true) (fA (sortW false) (fCons (fVar 0) (fNil))) (fA (sortW false) (fCons (fVar 1) (fNil))))) (sNever) (sSkip))
noncomputable def m__law_box : FM := fnM true 2 3 (sSeq (sAsg (fC (.int 0)) (gN 2))
    (sSeq (sIf (fB (f2 lt_W (fVar 1) (fA lenW (fCons (fVar 0) (fNil))))) (sAsg (f2 idxW (fVar 0) (fVar 1)) (gN 2)) (sSkip))
    (sRet (fA (lstW true) (fCons (f2 (mulW false) (fA absW (fCons (fVar 2) (fNil))) (fA intC (fCons (f2 ge_W (fA absW (fCons (fVar 2) (fNil))) (f2 powW (fC (.int 10)) (fC (.int 18)))) (fNil)))) (fCons (f2 (addW false) (f2 (addW false) (f2 modW (fVar 2) (fC (.int 2147483629))) (f2 (mulW false) (fC (.int 7919)) (fVar 1))) (fC (.int 11))) (fCons (fC (.int 0)) (fNil))))))))
noncomputable def m__law_take : FM := fnM false 2 4 (sSeq (sIf (fB (f2 gt_W (f2 idxW (fVar 0) (fC (.int 0))) (fC (.int 0)))) (sSeq (sAsg (f2 modW (f2 idxW (fVar 0) (fC (.int 0))) (fVar 1)) (gN 3))
    (sSeq (sSub (f2 divW (f2 idxW (fVar 0) (fC (.int 0))) (fVar 1)) (fVar 0) (fC (.int 0)))
    (sRet (fVar 3)))) (sSkip))
    (sSeq (sSub (f2 (addW false) (f2 idxW (fVar 0) (fC (.int 2))) (fC (.int 1))) (fVar 0) (fC (.int 2)))
    (sSeq (sAsg (f2 modW (f2 powW (f2 (addW false) (f2 idxW (fVar 0) (fC (.int 1))) (f2 (mulW false) (fC (.int 39373)) (f2 idxW (fVar 0) (fC (.int 2))))) (fC (.int 5))) (fC (.int 2147483647))) (gN 2))
    (sRet (f2 modW (f2 divW (f2 modW (f2 (addW false) (f2 (mulW false) (fVar 2) (f2 (addW false) (f2 modW (fVar 2) (fC (.int 40009))) (fC (.int 7)))) (f2 (mulW false) (f2 idxW (fVar 0) (fC (.int 2))) (fC (.int 7919)))) (fC (.int 2147483629))) (fC (.int 64))) (fVar 1))))))
noncomputable def m__law_same : Nat → FM
  | 0 => fun _ _ => none
  | n + 1 => fnM false 2 4 (sSeq (sIf (fB (f1 (isiW ["list", "tuple"]) (fVar 1))) (sSeq (sIf (bOr (fB (f2 (eqW true) (f1 (isiW ["list"]) (fVar 0)) (f1 (isiW ["list"]) (fVar 1)))) (fB (f2 (eqW true) (f1 (isiW ["tuple"]) (fVar 0)) (f1 (isiW ["tuple"]) (fVar 1))))) (sRet (fC (.bool false))) (sSkip))
    (sSeq (sIf (fB (f2 (eqW true) (fA lenW (fCons (fVar 0) (fNil))) (fA lenW (fCons (fVar 1) (fNil))))) (sRet (fC (.bool false))) (sSkip))
    (sRet (fA allW (fCons (fLc false (zipI (fCons (fVar 0) (fCons (fVar 1) (fNil)))) (gT 2 (gC (gN 2) (gC (gN 3) (gE)))) (bYes) (fA (m__law_same n) (fCons (fVar 2) (fCons (fVar 3) (fNil)))) [2, 3]) (fNil)))))) (sSkip))
    (sSeq (sIf (bOr (fB (f2 (isW false) (fVar 1) (fC .none))) (fB (f1 (isiW ["str"]) (fVar 1)))) (sRet (fAnd (f2 (eqW false) (fVar 0) (fVar 1)) (f2 (eqW false) (f1 (isiW ["str"]) (fVar 0)) (f1 (isiW ["str"]) (fVar 1))))) (sSkip))
    (sRet (fAnd (f1 (isiW ["int"]) (fVar 0)) (fAnd (f2 (eqW false) (f1 (isiW ["bool"]) (fVar 0)) (f1 (isiW ["bool"]) (fVar 1))) (f2 (eqW false) (fVar 0) (fVar 1)))))))
end DL
set_option maxRecDepth 100000
set_option maxHeartbeats 400000
namespace DL
open PySem L2
variable [HW]
local macro_rules | `(tactic| walk_at "dl") => `(tactic| simp (config := { dsimp := false }) only [↓fnM_e, ↓sSeq_e, seqK_nx, seqK_rt, seqK_bk, seqK_ct, retK_rt, retK_nx, ↓sFrz_e, frK_some, ↓sAsg, ↓sRet, ↓sRetN, ↓sIf, ↓sExpr, ↓sSkip, ↓sNever, ↓sPar, ↓sFor, ↓sSub, ↓fVar, ↓fC, ↓fNil, ↓fCons, ↓fA, ↓f1, ↓f2, ↓fB, ↓fIf, ↓fNeg, ↓fNot, ↓fAnd, ↓fOr, ↓bNot, ↓bAnd, ↓bOr, ↓bYes, ↓obnd_x, ob_some, ↓sbnd_x, sb_some, ↓ite_x, iteK_t, iteK_f, gN, gT, gC, gE, ↓rng1I, ↓rng2I, ↓seqI, ↓enumA, ↓zipI, ↓strI, ↓fLc, ↓fDc, ↓fM, ↓fSl, ↓oNone, ↓oSome, ↓fRev, wipeE, ↓kwM, permM, permL, List.foldr, List.length_cons, List.length_nil, List.map_cons, List.map_nil, List.cons_append, List.nil_append, List.replicate, List.replicate_succ, List.replicate_zero, List.getElem?_cons_zero, List.getElem?_cons_succ, List.set_cons_zero, List.set_cons_succ, if_true, if_false, reduceIte, Nat.reduceAdd, Nat.reduceSub, Nat.reduceEqDiff, Nat.reduceLT, Nat.reduceLeDiff, Int.reduceLT, Int.reduceLE, Int.reduceNeg, Int.reduceMul, Int.reduceAdd, Int.reduceSub, Int.reduceToNat, Int.reducePow, Int.reduceEq, ok, bok, deref, mkL, lstW, tupW, dats, Option.map_some, appendW, insertW, setL, isL, listW, tupleW, lenW, absW, intC, maxW, minW, idxW, addW, subW_e, modW_e, divW_e, powW_e, mulW, intW, lt_e, gt_e, le_e, ge_e, ltW, allW_e, anyW_e, sumW_e, lW, setW, lstAt, cutW, backW, isW, isiW, iLT_none, iLT_bool, iLT_int, iLT_str, iLT_list, iLT_tup, iL_none, iL_bool, iL_int, iL_str, iL_list, iL_tup, iT_none, iT_bool, iT_int, iT_str, iT_list, iT_tup, iS_none, iS_bool, iS_int, iS_str, iS_list, iS_tup, iI_none, iI_bool, iI_int, iI_str, iI_list, iI_tup, iB_none, iB_bool, iB_int, iB_str, iB_list, iB_tup, Bool.false_eq_true, reduceCtorEq, Bool.not_true, Bool.not_false, decide_true, decide_false, List.zip_cons_cons, List.zip_nil_left, List.foldl_cons, List.foldl_nil, and_self, and_true, true_and, Bool.and_true, Bool.true_and, Bool.or_true, Bool.true_or, *])
def BoxAt (h : Hh) (b c : Nat) : Prop := ∃ d s k : Int, h[b]? = some (some (.lst [.int d, .int s, .int k])) ∧ 0 ≤ d ∧ 0 ≤ s ∧ s < 1099511627776 ∧ 0 ≤ k ∧ k ≤ c
structure Only (b : Nat) (h h' : Hh) : Prop where
  len : h'.length = h.length
  off : ∀ i : Nat, i ≠ b → h'[i]? = h[i]?
theorem Only.refl (b : Nat) (h : Hh) : Only b h h := ⟨rfl, fun _ _ => rfl⟩
theorem Only.trans {b : Nat} {h h1 h2 : Hh} (x : Only b h h1) (y : Only b h1 h2) : Only b h h2 := ⟨y.len.trans x.len, fun i n => (y.off i n).trans (x.off i n)⟩
theorem only_set (b : Nat) (h : Hh) (o : Option MO) : Only b h (h.set b o) := ⟨by simp, fun i n => by rw [List.getElem?_set_ne (fun z => n z.symm)]⟩
theorem BoxAt.mono {h : Hh} {b c c' : Nat} (x : BoxAt h b c) (hc : c ≤ c') : BoxAt h b c' := by
  obtain ⟨d, s, k, e, h1, h2, h3, h4, h5⟩ := x
  exact ⟨d, s, k, e, h1, h2, h3, h4, by omega⟩
theorem BoxAt.lt {h : Hh} {b c : Nat} (x : BoxAt h b c) : b < h.length := by
  obtain ⟨d, s, k, e, _⟩ := x
  exact (List.getElem?_eq_some_iff.mp e).1
theorem live_only {b c c' : Nat} {h h' : Hh} (x : BoxAt h b c) (y : BoxAt h' b c') (o : Only b h h') : live h' = live h := by
  apply List.ext_getElem?
  intro i
  unfold live
  rw [List.getElem?_map, List.getElem?_map]
  by_cases hi : i = b
  · subst hi
    obtain ⟨_, _, _, e1, _⟩ := x
    obtain ⟨_, _, _, e2, _⟩ := y
    rw [e1, e2]
    rfl
  · rw [o.off i hi]
theorem leave_dat {h h' : Hh} {d : D} (e : live (h'.take h.length) = live h) : leave false h (.dat d) h' = some (.dat d, h'.take h.length) := by
  unfold leave
  rw [if_pos e]
theorem leave_dat' {b c c' : Nat} {h h' : Hh} {d : D} (x : BoxAt h b c) (y : BoxAt h' b c') (o : Only b h h') : leave false h (.dat d) h' = some (.dat d, h') := by
  have e : h'.take h.length = h' := List.take_of_length_le (by rw [o.len]; exact Nat.le_refl _)
  rw [leave_dat (by rw [e]; exact live_only x y o), e]
theorem leave_same' {h : Hh} {d : D} : leave false h (.dat d) h = some (.dat d, h) := by
  have e : h.take h.length = h := List.take_of_length_le (Nat.le_refl _)
  rw [leave_dat (by rw [e]), e]
theorem atI3 (x y z : D) : L2.atI [x, y, z] 0 = some x ∧ L2.atI [x, y, z] 1 = some y ∧ L2.atI [x, y, z] 2 = some z := ⟨rfl, rfl, rfl⟩
theorem ix3 : ixN 3 0 = some 0 ∧ ixN 3 1 = some 1 ∧ ixN 3 2 = some 2 := ⟨rfl, rfl, rfl⟩
theorem take_ok {h : Hh} {b c : Nat} {n : Int} (hb : BoxAt h b c) (hc : c < 1099511627776) (h0 : 0 < n) (h1 : n < 1073741824) :
    ∃ r h', m__law_take [.ref b, .dat (.int n)] h = some (.dat (.int r), h') ∧ 0 ≤ r ∧ r < n ∧ BoxAt h' b (c + 1) ∧ Only b h h' := by
  obtain ⟨d, s, k, e, hd, hs, hs2, hk, hk2⟩ := id hb
  have lb := hb.lt
  have a0 := fun x y z : D => (atI3 x y z).1
  have a1 := fun x y z : D => (atI3 x y z).2.1
  have a2 := fun x y z : D => (atI3 x y z).2.2
  have i0 := ix3.1
  have i2 := ix3.2.2
  by_cases hp : 0 < d
  · have y : BoxAt (h.set b (some (.lst [.int (d / n), .int s, .int k]))) b c := ⟨d / n, s, k, by rw [List.getElem?_set_self lb], Int.ediv_nonneg hd (by omega), hs, hs2, hk, hk2⟩
    refine ⟨d % n, h.set b (some (.lst [.int (d / n), .int s, .int k])), ?_, Int.emod_nonneg _ (by omega), Int.emod_lt_of_pos _ h0, y.mono (by omega), only_set _ _ _⟩
    unfold m__law_take
    walk_at "dl"
    exact leave_dat' hb y (only_set _ _ _)
  · have y : BoxAt (h.set b (some (.lst [.int d, .int s, .int (k + 1)]))) b (c + 1) := ⟨d, s, k + 1, by rw [List.getElem?_set_self lb], hd, hs, hs2, by omega, by omega⟩
    have hp' : decide (0 < d) = false := by simpa using hp
    have g1 : (h.set b (some (.lst [.int d, .int s, .int (k + 1)])))[b]? = some (some (.lst [.int d, .int s, .int (k + 1)])) := by rw [List.getElem?_set_self lb]
    have hw : (s + 39373 * (k + 1)).natAbs < 18446744073709551616 := by omega
    have o1 : -18446744073709551616 < (s + 39373 * (k + 1)) ^ 5 % 2147483647 := by omega
    have o2 : (s + 39373 * (k + 1)) ^ 5 % 2147483647 < 18446744073709551616 := by omega
    have k1 : -18446744073709551616 < k + 1 := by omega
    have k2 : k + 1 < 18446744073709551616 := by omega
    refine ⟨((s + 39373 * (k + 1)) ^ 5 % 2147483647 * ((s + 39373 * (k + 1)) ^ 5 % 2147483647 % 40009 + 7) + (k + 1) * 7919) % 2147483629 / 64 % n, h.set b (some (.lst [.int d, .int s, .int (k + 1)])), ?_, Int.emod_nonneg _ (by omega), Int.emod_lt_of_pos _ h0, y, only_set _ _ _⟩
    unfold m__law_take
    walk_at "dl"
    exact leave_dat' hb y (only_set _ _ _)
theorem box_take {h : Hh} {b c n : Nat} (x : BoxAt h b c) (hb : b < n) : BoxAt (h.take n) b c := by
  obtain ⟨d, s, k, e, r⟩ := x
  exact ⟨d, s, k, by rw [List.getElem?_take_of_lt hb]; exact e, r⟩
theorem take_snoc {α : Type} {l : List α} {n : Nat} {x : α} (e : l[n]? = some x) : l.take (n + 1) = l.take n ++ [x] := by
  rw [List.take_add_one, e]; rfl
end DL
set_option maxRecDepth 100000
set_option maxHeartbeats 400000
namespace DL
open PySem L2
variable [HW]
local macro_rules | `(tactic| walk_at "dl") => `(tactic| simp (config := { dsimp := false }) only [↓fnM_e, ↓sSeq_e, seqK_nx, seqK_rt, seqK_bk, seqK_ct, retK_rt, retK_nx, ↓sFrz_e, frK_some, ↓sAsg, ↓sRet, ↓sRetN, ↓sIf, ↓sExpr, ↓sSkip, ↓sNever, ↓sPar, ↓sFor, ↓sSub, ↓fVar, ↓fC, ↓fNil, ↓fCons, ↓fA, ↓f1, ↓f2, ↓fB, ↓fIf, ↓fNeg, ↓fNot, ↓fAnd, ↓fOr, ↓bNot, ↓bAnd, ↓bOr, ↓bYes, ↓obnd_x, ob_some, ↓sbnd_x, sb_some, ↓ite_x, iteK_t, iteK_f, gN, gT, gC, gE, ↓rng1I, ↓rng2I, ↓seqI, ↓enumA, ↓zipI, ↓strI, ↓fLc, ↓fDc, ↓fM, ↓fSl, ↓oNone, ↓oSome, ↓fRev, wipeE, ↓kwM, permM, permL, List.foldr, List.length_cons, List.length_nil, List.map_cons, List.map_nil, List.cons_append, List.nil_append, List.replicate, List.replicate_succ, List.replicate_zero, List.getElem?_cons_zero, List.getElem?_cons_succ, List.set_cons_zero, List.set_cons_succ, if_true, if_false, reduceIte, Nat.reduceAdd, Nat.reduceSub, Nat.reduceEqDiff, Nat.reduceLT, Nat.reduceLeDiff, Int.reduceLT, Int.reduceLE, Int.reduceNeg, Int.reduceMul, Int.reduceAdd, Int.reduceSub, Int.reduceToNat, Int.reducePow, Int.reduceEq, ok, bok, deref, mkL, lstW, tupW, dats, Option.map_some, appendW, insertW, setL, isL, listW, tupleW, lenW, absW, intC, maxW, minW, idxW, addW, subW_e, modW_e, divW_e, powW_e, mulW, intW, lt_e, gt_e, le_e, ge_e, ltW, allW_e, anyW_e, sumW_e, lW, setW, lstAt, cutW, backW, isW, isiW, iLT_none, iLT_bool, iLT_int, iLT_str, iLT_list, iLT_tup, iL_none, iL_bool, iL_int, iL_str, iL_list, iL_tup, iT_none, iT_bool, iT_int, iT_str, iT_list, iT_tup, iS_none, iS_bool, iS_int, iS_str, iS_list, iS_tup, iI_none, iI_bool, iI_int, iI_str, iI_list, iI_tup, iB_none, iB_bool, iB_int, iB_str, iB_list, iB_tup, Bool.false_eq_true, reduceCtorEq, Bool.not_true, Bool.not_false, decide_true, decide_false, List.zip_cons_cons, List.zip_nil_left, List.foldl_cons, List.foldl_nil, and_self, and_true, true_and, Bool.and_true, Bool.true_and, Bool.or_true, Bool.true_or, *])
theorem str_ext {a b : Str} (h : a.cps.toList = b.cps.toList) : a = b := by
  obtain ⟨⟨x⟩⟩ := a
  obtain ⟨⟨y⟩⟩ := b
  simp at h
  rw [h]
theorem cps_app (a b : Str) : (a ++ b).cps.toList = a.cps.toList ++ b.cps.toList := by
  show (a.cps ++ b.cps).toList = _
  simp
theorem len_app (a b : Str) : (a ++ b).length = a.length + b.length := by
  show (a.cps ++ b.cps).size = _
  simp [Str.length]
def lt1 (i : Nat) : Str := ⟨#[97 + i]⟩
def sfx : Nat → Str
  | 0 => ""
  | 1 => "a"
  | _ => "zz"
def nm (st sp at_ : Nat) : Str := lt1 ((st + sp * (at_ / 2)) % 26) ++ sfx (at_ % 2 * (1 + st % 2))
theorem sfx_len : (sfx 0).cps.toList = [] ∧ (sfx 1).cps.toList = [97] ∧ (sfx 2).cps.toList = [122, 122] := by decide +kernel
def Steps (sp : Nat) : Prop := sp = 1 ∨ sp = 3 ∨ sp = 25
theorem nm_cps (st sp a : Nat) : (nm st sp a).cps.toList = (97 + (st + sp * (a / 2)) % 26) :: (sfx (a % 2 * (1 + st % 2))).cps.toList := by
  unfold nm
  rw [cps_app]
  rfl
structure Crew (most : Nat) (rs : List Str) : Prop where
  nd : rs.Nodup
  pos : 0 < rs.length
  le : rs.length ≤ most
  nam : ∀ s ∈ rs, ∃ st sp a, st < 26 ∧ Steps sp ∧ s = nm st sp a
def unS : D → Str
  | .str s => s
  | _ => ""
theorem rng_get {n j : Nat} {d : D} (e : (rngD 0 n)[j]? = some d) : j < n ∧ d = .int (j : Int) := by
  obtain ⟨h1, h2⟩ := rngD_get e
  exact ⟨h1, by rw [h2]; simp⟩
theorem rng_len (n : Nat) : (rngD 0 n).length = n := by simp [rngD]
theorem sfx_le (k : Nat) : (sfx k).length ≤ 2 := by
  match k with
  | 0 => decide +kernel
  | 1 => decide +kernel
  | _ + 2 => show (sfx 2).length ≤ 2; decide +kernel
end DL
set_option maxRecDepth 100000
set_option maxHeartbeats 400000
namespace DL
open PySem L2
variable [HW]
local macro_rules | `(tactic| walk_at "dl") => `(tactic| simp (config := { dsimp := false }) only [↓fnM_e, ↓sSeq_e, seqK_nx, seqK_rt, seqK_bk, seqK_ct, retK_rt, retK_nx, ↓sFrz_e, frK_some, ↓sAsg, ↓sRet, ↓sRetN, ↓sIf, ↓sExpr, ↓sSkip, ↓sNever, ↓sPar, ↓sFor, ↓sSub, ↓fVar, ↓fC, ↓fNil, ↓fCons, ↓fA, ↓f1, ↓f2, ↓fB, ↓fIf, ↓fNeg, ↓fNot, ↓fAnd, ↓fOr, ↓bNot, ↓bAnd, ↓bOr, ↓bYes, ↓obnd_x, ob_some, ↓sbnd_x, sb_some, ↓ite_x, iteK_t, iteK_f, gN, gT, gC, gE, ↓rng1I, ↓rng2I, ↓seqI, ↓enumA, ↓zipI, ↓strI, ↓fLc, ↓fDc, ↓fM, ↓fSl, ↓oNone, ↓oSome, ↓fRev, wipeE, ↓kwM, permM, permL, List.foldr, List.length_cons, List.length_nil, List.map_cons, List.map_nil, List.cons_append, List.nil_append, List.replicate, List.replicate_succ, List.replicate_zero, List.getElem?_cons_zero, List.getElem?_cons_succ, List.set_cons_zero, List.set_cons_succ, if_true, if_false, reduceIte, Nat.reduceAdd, Nat.reduceSub, Nat.reduceEqDiff, Nat.reduceLT, Nat.reduceLeDiff, Int.reduceLT, Int.reduceLE, Int.reduceNeg, Int.reduceMul, Int.reduceAdd, Int.reduceSub, Int.reduceToNat, Int.reducePow, Int.reduceEq, ok, bok, deref, mkL, lstW, tupW, dats, Option.map_some, appendW, insertW, setL, isL, listW, tupleW, lenW, absW, intC, maxW, minW, idxW, addW, subW_e, modW_e, divW_e, powW_e, mulW, intW, lt_e, gt_e, le_e, ge_e, ltW, allW_e, anyW_e, sumW_e, lW, setW, lstAt, cutW, backW, isW, isiW, iLT_none, iLT_bool, iLT_int, iLT_str, iLT_list, iLT_tup, iL_none, iL_bool, iL_int, iL_str, iL_list, iL_tup, iT_none, iT_bool, iT_int, iT_str, iT_list, iT_tup, iS_none, iS_bool, iS_int, iS_str, iS_list, iS_tup, iI_none, iI_bool, iI_int, iI_str, iI_list, iI_tup, iB_none, iB_bool, iB_int, iB_str, iB_list, iB_tup, Bool.false_eq_true, reduceCtorEq, Bool.not_true, Bool.not_false, decide_true, decide_false, List.zip_cons_cons, List.zip_nil_left, List.foldl_cons, List.foldl_nil, and_self, and_true, true_and, Bool.and_true, Bool.true_and, Bool.or_true, Bool.true_or, *])
theorem zipD_self : ∀ ds : List D, zipD ds ds = ds.map fun d => .tuple [d, d]
  | [] => rfl
  | d :: ds => by rw [zipD, zipD_self ds]; rfl
theorem bools_true : ∀ n : Nat, bools (List.replicate n (.bool true)) = some (List.replicate n true)
  | 0 => rfl
  | n + 1 => by rw [List.replicate_succ, bools, bools_true n]; rfl
theorem all_true (n : Nat) : (List.replicate n true).all id = true := by induction n with
  | zero => rfl
  | succ n ih => rw [List.replicate_succ, List.all_cons, ih]; rfl
theorem eqS_bool (b : Bool) : eqS (.bool b) (.bool b) = some true := by simp [eqS]
theorem eqS_self_str (b : Str) : eqS (.str b) (.str b) = some true := by simp [eqS]
theorem eqS_self_int (b : Int) : eqS (.int b) (.int b) = some true := by simp [eqS]
theorem eqW_same {neg : Bool} {d : D} {h : Hh} (e : eqS d d = some true) : eqW neg (.dat d) (.dat d) h = bok (!neg) h := by
  unfold eqW
  simp only [deref, e]
  cases neg <;> rfl
mutual
def plainD : D → Bool
  | .dict _ => false
  | .list ds => plainDs ds && decide (ds.length ≤ sizeLine)
  | .tuple ds => plainDs ds && decide (ds.length ≤ sizeLine)
  | _ => true
def plainDs : List D → Bool
  | [] => true
  | d :: ds => plainD d && plainDs ds
end
theorem plainDs_mem : ∀ {ds : List D} {d : D}, plainDs ds = true → d ∈ ds → plainD d = true
  | _ :: _, _, h, .head _ => by rw [plainDs, Bool.and_eq_true] at h; exact h.1
  | _ :: ds, _, h, .tail _ m => by rw [plainDs, Bool.and_eq_true] at h; exact plainDs_mem h.2 m
theorem depthAll_mem : ∀ {ds : List D} {d : D}, d ∈ ds → d.depth ≤ PyData.depthAll ds
  | _ :: _, _, .head _ => by rw [PyData.depthAll]; exact Nat.le_max_left _ _
  | _ :: ds, _, .tail _ m => by rw [PyData.depthAll]; exact Nat.le_trans (depthAll_mem m) (Nat.le_max_right _ _)
theorem same_seq {n : Nat} {ds : List D} {h : Hh} (ih : ∀ d ∈ ds, m__law_same n [.dat d, .dat d] h = some (.dat (.bool true), h)) (v1 v2 : Option W) (hl : ds.length ≤ sizeLine) :
    lcL (gT 2 (gC (gN 2) (gC (gN 3) (gE)))) (bYes) (fA (m__law_same n) (fCons (fVar 2) (fCons (fVar 3) (fNil)))) [v1, v2, none, none] (zipD ds ds) h = some (List.replicate ds.length (.bool true), h) := by
  rw [zipD_self]
  rw [lcL_all (fun _ => .bool true) (ds := ds.map fun d => .tuple [d, d]) (fun d' hd' => ?_)]
  · rw [List.map_map]
    congr 2
    apply List.eq_replicate_iff.mpr
    exact ⟨by simp, fun b hb => by obtain ⟨d, hd, rfl⟩ := List.mem_map.mp hb; rfl⟩
  · obtain ⟨d, hd, rfl⟩ := List.mem_map.mp hd'
    have e := ih d hd
    refine ⟨[v1, v2, some (.dat d), some (.dat d)], ?_, rfl, ?_⟩
    · walk_at "dl"
    · walk_at "dl"
theorem callD_two (d : D) : callD [d, d] = false := by
  by_cases h : ∃ a b : Str, d = .tuple [.str a, .str b]
  · obtain ⟨a, b, rfl⟩ := h
    simp [callD, pairD, rowD, prTx, rowS]
  · by_cases h' : ∃ a : Str, d = .str a
    · obtain ⟨a, rfl⟩ := h'
      simp [callD, pairD, rowD, prTx, rowS]
    · exact callD_not _ (fun a b e => h ⟨a, b, e⟩) fun a e => h' ⟨a, e⟩
theorem zipOk_refl : ∀ ds : List D, zipOk ds ds = true
  | [] => rfl
  | d :: ds => by
    have ih := zipOk_refl ds
    unfold zipOk at ih ⊢
    simp only [zipD, List.all_cons, ih, notCall, callD_two]
    rfl
theorem same_refl : ∀ (n : Nat) (d : D) (h : Hh), plainD d = true → d.depth < n → m__law_same n [.dat d, .dat d] h = some (.dat (.bool true), h)
  | 0, _, _, _, hd => by omega
  | n + 1, d, h, hp, hd => by
    have tk : leave false h (.dat (.bool true)) h = some (.dat (.bool true), h) := leave_same'
    have e0 := fun b : Bool => eqW_same (neg := true) (h := h) (eqS_bool b)
    have e1 := fun b : Bool => eqW_same (neg := false) (h := h) (eqS_bool b)
    cases d with
    | none => 
      unfold m__law_same
      have e2 : eqW false (.dat .none) (.dat .none) h = bok true h := eqW_same rfl
      walk_at "dl"
    | bool b =>
      unfold m__law_same
      walk_at "dl"
    | int i =>
      unfold m__law_same
      have e2 := eqW_same (neg := false) (h := h) (eqS_self_int i)
      walk_at "dl"
    | str s =>
      unfold m__law_same
      have e2 := eqW_same (neg := false) (h := h) (eqS_self_str s)
      walk_at "dl"
    | list ds =>
      unfold m__law_same
      simp only [plainD, Bool.and_eq_true, decide_eq_true_eq] at hp
      simp only [PyData.depth] at hd
      have hl : ds.length ≤ sizeLine := hp.2
      have ez := zipOk_refl ds
      have e3 := same_seq (n := n) (ds := ds) (h := h) (fun d hd' => same_refl n d h (plainDs_mem hp.1 hd') (by have := depthAll_mem hd'; omega)) (some (.dat (.list ds))) (some (.dat (.list ds))) hl
      have e2 := eqW_same (neg := true) (h := h) (eqS_self_int (ds.length : Int))
      have e4 := bools_true ds.length
      have e5 := all_true ds.length
      have e6 : (List.replicate ds.length (PyData.bool true)).length ≤ sizeLine := by simpa using hl
      clear hd hp
      walk_at "dl"
    | tuple ds =>
      unfold m__law_same
      simp only [plainD, Bool.and_eq_true, decide_eq_true_eq] at hp
      simp only [PyData.depth] at hd
      have hl : ds.length ≤ sizeLine := hp.2
      have ez := zipOk_refl ds
      have e3 := same_seq (n := n) (ds := ds) (h := h) (fun d hd' => same_refl n d h (plainDs_mem hp.1 hd') (by have := depthAll_mem hd'; omega)) (some (.dat (.tuple ds))) (some (.dat (.tuple ds))) hl
      have e2 := eqW_same (neg := true) (h := h) (eqS_self_int (ds.length : Int))
      have e4 := bools_true ds.length
      have e5 := all_true ds.length
      have e6 : (List.replicate ds.length (PyData.bool true)).length ≤ sizeLine := by simpa using hl
      clear hd hp
      walk_at "dl"
    | dict es => simp [plainD] at hp
theorem forL_end {k : TM} {body : SM} (I : Nat → Env → Hh → Prop) {ds : List D} {ρ : Env} {h : Hh} (i : I 0 ρ h) (H : ∀ (j : Nat) (d : D), ds[j]? = some d → ∀ ρ h, I j ρ h → ∃ ρ1 ρ2 h2, k (.dat d) ρ h = some ρ1 ∧ body ρ1 h = some (.nx ρ2, h2) ∧ I (j + 1) ρ2 h2) :
    ∃ ρ' h', forL k body ds ρ h = some (.nx ρ', h') ∧ I ds.length ρ' h' := by
  have := forL_inv (k := k) (body := body) I (ds := ds) (n := 0) i fun j d e ρ h q => by
    have := H j d e ρ h (by rw [Nat.zero_add] at q; exact q)
    rw [Nat.zero_add]; exact this
  rw [Nat.zero_add] at this
  exact this
theorem leave_ref {h : Hh} {ds : List D} : leave true h (.ref h.length) (h ++ [some (.lst ds)]) = some (.ref h.length, h ++ [some (.lst ds)]) := by
  have e : (h ++ [some (MO.lst ds)]).take h.length = h := by rw [List.take_append_of_le_length (Nat.le_refl _), List.take_length]
  have e2 : (h ++ [some (MO.lst ds)])[h.length]? = some (some (.lst ds)) := by rw [List.getElem?_append_right (Nat.le_refl _)]; simp
  unfold leave
  rw [e, if_pos rfl]
  simp only [Nat.lt_irrefl, if_false, e2, if_true]
theorem bools_all : ∀ {rs : List D}, (∀ r ∈ rs, r = .bool true) → rs = List.replicate rs.length (.bool true)
  | [], _ => rfl
  | r :: rs, h => by
    rw [List.length_cons, List.replicate_succ, ← bools_all fun x hx => h x (List.mem_cons_of_mem _ hx), ← h r List.mem_cons_self]
end DL
set_option maxRecDepth 100000
set_option maxHeartbeats 400000
namespace DL
open PySem L2
variable [HW]
local macro_rules | `(tactic| walk_at "dl") => `(tactic| simp (config := { dsimp := false }) only [↓fnM_e, ↓sSeq_e, seqK_nx, seqK_rt, seqK_bk, seqK_ct, retK_rt, retK_nx, ↓sFrz_e, frK_some, ↓sAsg, ↓sRet, ↓sRetN, ↓sIf, ↓sExpr, ↓sSkip, ↓sNever, ↓sPar, ↓sFor, ↓sSub, ↓fVar, ↓fC, ↓fNil, ↓fCons, ↓fA, ↓f1, ↓f2, ↓fB, ↓fIf, ↓fNeg, ↓fNot, ↓fAnd, ↓fOr, ↓bNot, ↓bAnd, ↓bOr, ↓bYes, ↓obnd_x, ob_some, ↓sbnd_x, sb_some, ↓ite_x, iteK_t, iteK_f, gN, gT, gC, gE, ↓rng1I, ↓rng2I, ↓seqI, ↓enumA, ↓zipI, ↓strI, ↓fLc, ↓fDc, ↓fM, ↓fSl, ↓oNone, ↓oSome, ↓fRev, wipeE, ↓kwM, permM, permL, List.foldr, List.length_cons, List.length_nil, List.map_cons, List.map_nil, List.cons_append, List.nil_append, List.replicate, List.replicate_succ, List.replicate_zero, List.getElem?_cons_zero, List.getElem?_cons_succ, List.set_cons_zero, List.set_cons_succ, if_true, if_false, reduceIte, Nat.reduceAdd, Nat.reduceSub, Nat.reduceEqDiff, Nat.reduceLT, Nat.reduceLeDiff, Int.reduceLT, Int.reduceLE, Int.reduceNeg, Int.reduceMul, Int.reduceAdd, Int.reduceSub, Int.reduceToNat, Int.reducePow, Int.reduceEq, ok, bok, deref, mkL, lstW, tupW, dats, Option.map_some, appendW, insertW, setL, isL, listW, tupleW, lenW, absW, intC, maxW, minW, idxW, addW, subW_e, modW_e, divW_e, powW_e, mulW, intW, lt_e, gt_e, le_e, ge_e, ltW, allW_e, anyW_e, sumW_e, lW, setW, lstAt, cutW, backW, isW, isiW, iLT_none, iLT_bool, iLT_int, iLT_str, iLT_list, iLT_tup, iL_none, iL_bool, iL_int, iL_str, iL_list, iL_tup, iT_none, iT_bool, iT_int, iT_str, iT_list, iT_tup, iS_none, iS_bool, iS_int, iS_str, iS_list, iS_tup, iI_none, iI_bool, iI_int, iI_str, iI_list, iI_tup, iB_none, iB_bool, iB_int, iB_str, iB_list, iB_tup, Bool.false_eq_true, reduceCtorEq, Bool.not_true, Bool.not_false, decide_true, decide_false, List.zip_cons_cons, List.zip_nil_left, List.foldl_cons, List.foldl_nil, and_self, and_true, true_and, Bool.and_true, Bool.true_and, Bool.or_true, Bool.true_or, *])
def TxtOk (s : Str) : Prop := s.length ≤ 100 ∧ ∀ c ∈ s.cps.toList, c < 128
theorem TxtOk.ok {s : Str} (h : TxtOk s) : PyData.strOk s = true := by
  unfold PyData.strOk
  rw [Array.all_eq_true']
  intro c hc
  have := h.2 c (by simpa using hc)
  simp; omega
abbrev Txts (l : List Str) : Prop := ∀ s ∈ l, TxtOk s
theorem Txts.perm {l m : List Str} (h : Txts l) (p : m.Perm l) : Txts m := fun s hs => h s (p.mem_iff.mp hs)
def leS (a b : Str) : Bool := decide (a.cps.toList ≤ b.cps.toList)
theorem leS_trans (a b c : Str) (h1 : leS a b = true) (h2 : leS b c = true) : leS a c = true := by
  unfold leS at *
  simp only [decide_eq_true_eq] at *
  exact List.le_trans h1 h2
theorem leS_total (a b : Str) : (leS a b || leS b a) = true := by
  unfold leS
  simp only [Bool.or_eq_true, decide_eq_true_eq]
  exact List.le_total _ _
theorem leS_antisymm {a b : Str} (h1 : leS a b = true) (h2 : leS b a = true) : a = b := by
  unfold leS at *
  simp only [decide_eq_true_eq] at *
  exact str_ext (List.le_antisymm h1 h2)
def sortS (l : List Str) : List Str := l.mergeSort leS
theorem sortS_perm (l : List Str) : (sortS l).Perm l := List.mergeSort_perm _ _
theorem sortS_pw (l : List Str) : (sortS l).Pairwise fun a b => leS a b = true := List.pairwise_mergeSort leS_trans leS_total l
theorem sortS_eq {a b : List Str} (h : a.Perm b) : sortS a = sortS b :=
  List.Perm.eq_of_pairwise (fun x y _ _ h1 h2 => leS_antisymm h1 h2) (sortS_pw a) (sortS_pw b) ((sortS_perm a).trans (h.trans (sortS_perm b).symm))
theorem sortD_strs (l : List Str) : sortD (l.map .str) = (sortS l).map .str := by
  unfold sortD sortS
  have e := PySem.W.dataLe_str (fun s : Str => s)
  rw [← PySem.W.sort_maps (r := leS) (s := PySem.W.dataLe false fun d : D => d) (fun s : Str => (.str s : D)) (l := l) fun a _ b _ => ?_]
  have := congrFun (congrFun e a) b
  unfold leS
  rw [← this]
  rfl
theorem alike_strs (l : List Str) : (l.map PyData.str).all (fun d => (l.map PyData.str).all fun e => PySem.W.alike d e) = true := by
  rw [List.all_eq_true]
  intro d hd
  rw [List.all_eq_true]
  intro e he
  obtain ⟨a, _, rfl⟩ := List.mem_map.mp hd
  obtain ⟨b, _, rfl⟩ := List.mem_map.mp he
  rfl
theorem shp_strs {l : List Str} (ht : Txts l) : (l.map PyData.str).all shp = true := by
  rw [List.all_eq_true]
  intro d hd
  obtain ⟨a, ha, rfl⟩ := List.mem_map.mp hd
  simp [shp, PyData.canLay0, PyData.depth, (ht a ha).ok]
theorem sortable_strs {l : List Str} (ht : Txts l) : sortable (l.map .str) = true := by
  unfold sortable
  rw [alike_strs, shp_strs ht]
  simp only [Bool.true_and, Bool.and_true, Bool.or_eq_true]
  right
  rw [List.all_eq_true]
  intro d hd
  obtain ⟨a, _, rfl⟩ := List.mem_map.mp hd
  rfl
abbrev IsSeq (x : D) (ds : List D) : Prop := x = .list ds ∨ x = .tuple ds
theorem sortW_strs {x : D} {l : List Str} {h : Hh} (hx : IsSeq x (l.map .str)) (ht : Txts l) : sortW false [.dat x] h = some (.dat (.list ((sortS l).map .str)), h) := by
  have e := sortD_strs l
  have e2 := sortable_strs ht
  clear ht
  rcases hx with rfl | rfl <;> (unfold sortW; walk_at "dl")
theorem canLay_strs : ∀ {l : List Str}, Txts l → PyData.canLayAll0 (l.map .str) = true
  | [], _ => rfl
  | s :: l, h => by rw [List.map_cons, PyData.canLayAll0, canLay_strs fun t ht => h t (List.mem_cons_of_mem _ ht)]; simp [PyData.canLay0, (h s List.mem_cons_self).ok]
theorem depth_strs : ∀ l : List Str, PyData.depthAll (l.map .str) = 0
  | [] => rfl
  | s :: l => by rw [List.map_cons, PyData.depthAll, depth_strs l]; simp [PyData.depth]
theorem shp_list {l : List Str} (ht : Txts l) : shp (.list (l.map .str)) = true := by
  unfold shp
  rw [PyData.canLay0, canLay_strs ht, PyData.depth, depth_strs]
  rfl
theorem eqW_list {neg : Bool} {ds : List D} {h : Hh} (hs : shp (.list ds) = true) : eqW neg (.dat (.list ds)) (.dat (.list ds)) h = some (.dat (.bool (!neg)), h) := by
  have e : PyData.eqv (.list ds) (.list ds) = true := SeqAt.eqv_refl _ (SeqAt.canLay_of_shaped hs)
  unfold eqW
  simp only [deref, eqS, hs, e, Bool.and_self, if_true]
  cases neg <;> rfl
theorem look_alike_ok {x y : D} {l m : List Str} {h : Hh} (hx : IsSeq x (l.map .str)) (hy : IsSeq y (m.map .str)) (p : l.Perm m) (ht : Txts l) : m_look_alike [.dat x, .dat y] h = some (.dat .none, h) := by
  have e1 := sortW_strs (h := h) hx ht
  have e2 := sortW_strs (h := h) hy (ht.perm p.symm)
  rw [← sortS_eq p] at e2
  have e3 := eqW_list (neg := true) (h := h) (shp_list (ht.perm (sortS_perm l)))
  have lv := leave_same' (h := h) (d := .none)
  unfold m_look_alike
  clear hx hy p ht
  walk_at "dl"
end DL
set_option maxRecDepth 100000
set_option maxHeartbeats 400000
namespace DL
open PySem L2
variable [HW]
local macro_rules | `(tactic| walk_at "dl") => `(tactic| simp (config := { dsimp := false }) only [↓fnM_e, ↓sSeq_e, seqK_nx, seqK_rt, seqK_bk, seqK_ct, retK_rt, retK_nx, ↓sFrz_e, frK_some, ↓sAsg, ↓sRet, ↓sRetN, ↓sIf, ↓sExpr, ↓sSkip, ↓sNever, ↓sPar, ↓sFor, ↓sSub, ↓fVar, ↓fC, ↓fNil, ↓fCons, ↓fA, ↓f1, ↓f2, ↓fB, ↓fIf, ↓fNeg, ↓fNot, ↓fAnd, ↓fOr, ↓bNot, ↓bAnd, ↓bOr, ↓bYes, ↓obnd_x, ob_some, ↓sbnd_x, sb_some, ↓ite_x, iteK_t, iteK_f, gN, gT, gC, gE, ↓rng1I, ↓rng2I, ↓seqI, ↓enumA, ↓zipI, ↓strI, ↓fLc, ↓fDc, ↓fM, ↓fSl, ↓oNone, ↓oSome, ↓fRev, wipeE, ↓kwM, permM, permL, List.foldr, List.length_cons, List.length_nil, List.map_cons, List.map_nil, List.cons_append, List.nil_append, List.replicate, List.replicate_succ, List.replicate_zero, List.getElem?_cons_zero, List.getElem?_cons_succ, List.set_cons_zero, List.set_cons_succ, if_true, if_false, reduceIte, Nat.reduceAdd, Nat.reduceSub, Nat.reduceEqDiff, Nat.reduceLT, Nat.reduceLeDiff, Int.reduceLT, Int.reduceLE, Int.reduceNeg, Int.reduceMul, Int.reduceAdd, Int.reduceSub, Int.reduceToNat, Int.reducePow, Int.reduceEq, ok, bok, deref, mkL, lstW, tupW, dats, Option.map_some, appendW, insertW, setL, isL, listW, tupleW, lenW, absW, intC, maxW, minW, idxW, addW, subW_e, modW_e, divW_e, powW_e, mulW, intW, lt_e, gt_e, le_e, ge_e, ltW, allW_e, anyW_e, sumW_e, lW, setW, lstAt, cutW, backW, isW, isiW, iLT_none, iLT_bool, iLT_int, iLT_str, iLT_list, iLT_tup, iL_none, iL_bool, iL_int, iL_str, iL_list, iL_tup, iT_none, iT_bool, iT_int, iT_str, iT_list, iT_tup, iS_none, iS_bool, iS_int, iS_str, iS_list, iS_tup, iI_none, iI_bool, iI_int, iI_str, iI_list, iI_tup, iB_none, iB_bool, iB_int, iB_str, iB_list, iB_tup, Bool.false_eq_true, reduceCtorEq, Bool.not_true, Bool.not_false, decide_true, decide_false, List.zip_cons_cons, List.zip_nil_left, List.foldl_cons, List.foldl_nil, and_self, and_true, true_and, Bool.and_true, Bool.true_and, Bool.or_true, Bool.true_or, *])
end DL
set_option maxRecDepth 100000
set_option maxHeartbeats 400000
namespace DL
open PySem L2
variable [HW]
end DL
set_option maxRecDepth 100000
set_option maxHeartbeats 400000
namespace DL
open PySem L2
variable [HW]
local macro_rules | `(tactic| walk_at "dl") => `(tactic| simp (config := { dsimp := false }) only [↓fnM_e, ↓sSeq_e, seqK_nx, seqK_rt, seqK_bk, seqK_ct, retK_rt, retK_nx, ↓sFrz_e, frK_some, ↓sAsg, ↓sRet, ↓sRetN, ↓sIf, ↓sExpr, ↓sSkip, ↓sNever, ↓sPar, ↓sFor, ↓sSub, ↓fVar, ↓fC, ↓fNil, ↓fCons, ↓fA, ↓f1, ↓f2, ↓fB, ↓fIf, ↓fNeg, ↓fNot, ↓fAnd, ↓fOr, ↓bNot, ↓bAnd, ↓bOr, ↓bYes, ↓obnd_x, ob_some, ↓sbnd_x, sb_some, ↓ite_x, iteK_t, iteK_f, gN, gT, gC, gE, ↓rng1I, ↓rng2I, ↓seqI, ↓enumA, ↓zipI, ↓strI, ↓fLc, ↓fDc, ↓fM, ↓fSl, ↓oNone, ↓oSome, ↓fRev, wipeE, ↓kwM, permM, permL, List.foldr, List.length_cons, List.length_nil, List.map_cons, List.map_nil, List.cons_append, List.nil_append, List.replicate, List.replicate_succ, List.replicate_zero, List.getElem?_cons_zero, List.getElem?_cons_succ, List.set_cons_zero, List.set_cons_succ, if_true, if_false, reduceIte, Nat.reduceAdd, Nat.reduceSub, Nat.reduceEqDiff, Nat.reduceLT, Nat.reduceLeDiff, Int.reduceLT, Int.reduceLE, Int.reduceNeg, Int.reduceMul, Int.reduceAdd, Int.reduceSub, Int.reduceToNat, Int.reducePow, Int.reduceEq, ok, bok, deref, mkL, lstW, tupW, dats, Option.map_some, appendW, insertW, setL, isL, listW, tupleW, lenW, absW, intC, maxW, minW, idxW, addW, subW_e, modW_e, divW_e, powW_e, mulW, intW, lt_e, gt_e, le_e, ge_e, ltW, allW_e, anyW_e, sumW_e, lW, setW, lstAt, cutW, backW, isW, isiW, iLT_none, iLT_bool, iLT_int, iLT_str, iLT_list, iLT_tup, iL_none, iL_bool, iL_int, iL_str, iL_list, iL_tup, iT_none, iT_bool, iT_int, iT_str, iT_list, iT_tup, iS_none, iS_bool, iS_int, iS_str, iS_list, iS_tup, iI_none, iI_bool, iI_int, iI_str, iI_list, iI_tup, iB_none, iB_bool, iB_int, iB_str, iB_list, iB_tup, Bool.false_eq_true, reduceCtorEq, Bool.not_true, Bool.not_false, decide_true, decide_false, List.zip_cons_cons, List.zip_nil_left, List.foldl_cons, List.foldl_nil, and_self, and_true, true_and, Bool.and_true, Bool.true_and, Bool.or_true, Bool.true_or, *])
theorem idx_of {r : List Str} (nd : r.Nodup) {i : Nat} (hi : i < r.length) : r.idxOf r[i] = i := nd.idxOf_getElem i hi
end DL
set_option maxRecDepth 100000
set_option maxHeartbeats 400000
namespace DL
open PySem L2
variable [HW]
local macro_rules | `(tactic| walk_at "dl") => `(tactic| simp (config := { dsimp := false }) only [↓fnM_e, ↓sSeq_e, seqK_nx, seqK_rt, seqK_bk, seqK_ct, retK_rt, retK_nx, ↓sFrz_e, frK_some, ↓sAsg, ↓sRet, ↓sRetN, ↓sIf, ↓sExpr, ↓sSkip, ↓sNever, ↓sPar, ↓sFor, ↓sSub, ↓fVar, ↓fC, ↓fNil, ↓fCons, ↓fA, ↓f1, ↓f2, ↓fB, ↓fIf, ↓fNeg, ↓fNot, ↓fAnd, ↓fOr, ↓bNot, ↓bAnd, ↓bOr, ↓bYes, ↓obnd_x, ob_some, ↓sbnd_x, sb_some, ↓ite_x, iteK_t, iteK_f, gN, gT, gC, gE, ↓rng1I, ↓rng2I, ↓seqI, ↓enumA, ↓zipI, ↓strI, ↓fLc, ↓fDc, ↓fM, ↓fSl, ↓oNone, ↓oSome, ↓fRev, wipeE, ↓kwM, permM, permL, List.foldr, List.length_cons, List.length_nil, List.map_cons, List.map_nil, List.cons_append, List.nil_append, List.replicate, List.replicate_succ, List.replicate_zero, List.getElem?_cons_zero, List.getElem?_cons_succ, List.set_cons_zero, List.set_cons_succ, if_true, if_false, reduceIte, Nat.reduceAdd, Nat.reduceSub, Nat.reduceEqDiff, Nat.reduceLT, Nat.reduceLeDiff, Int.reduceLT, Int.reduceLE, Int.reduceNeg, Int.reduceMul, Int.reduceAdd, Int.reduceSub, Int.reduceToNat, Int.reducePow, Int.reduceEq, ok, bok, deref, mkL, lstW, tupW, dats, Option.map_some, appendW, insertW, setL, isL, listW, tupleW, lenW, absW, intC, maxW, minW, idxW, addW, subW_e, modW_e, divW_e, powW_e, mulW, intW, lt_e, gt_e, le_e, ge_e, ltW, allW_e, anyW_e, sumW_e, lW, setW, lstAt, cutW, backW, isW, isiW, iLT_none, iLT_bool, iLT_int, iLT_str, iLT_list, iLT_tup, iL_none, iL_bool, iL_int, iL_str, iL_list, iL_tup, iT_none, iT_bool, iT_int, iT_str, iT_list, iT_tup, iS_none, iS_bool, iS_int, iS_str, iS_list, iS_tup, iI_none, iI_bool, iI_int, iI_str, iI_list, iI_tup, iB_none, iB_bool, iB_int, iB_str, iB_list, iB_tup, Bool.false_eq_true, reduceCtorEq, Bool.not_true, Bool.not_false, decide_true, decide_false, List.zip_cons_cons, List.zip_nil_left, List.foldl_cons, List.foldl_nil, and_self, and_true, true_and, Bool.and_true, Bool.true_and, Bool.or_true, Bool.true_or, *])
def Pre (h0 h : Hh) : Prop := ∀ i : Nat, i < h0.length → h[i]? = h0[i]?
theorem Pre.only {h0 h h' : Hh} {b : Nat} (p : Pre h0 h) (hb : h0.length ≤ b) (o : Only b h h') : Pre h0 h' := fun i hi => (o.off i (by omega)).trans (p i hi)
theorem Pre.app {h0 h l : Hh} (p : Pre h0 h) (hl : h0.length ≤ h.length) : Pre h0 (h ++ l) := fun i hi => by
  rw [List.getElem?_append_left (by omega)]; exact p i hi
theorem Pre.take {h0 h : Hh} (p : Pre h0 h) (hl : h0.length ≤ h.length) : h.take h0.length = h0 := by
  apply List.ext_getElem?
  intro i
  by_cases hi : i < h0.length
  · rw [List.getElem?_take_of_lt hi]; exact p i hi
  · rw [List.getElem?_eq_none (by rw [List.length_take]; omega), List.getElem?_eq_none (by omega)]
end DL
namespace DL
open PySem L2
variable [HW]
noncomputable def m_by_names : FM := fnM false 1 3 (sRet (fDc false (seqI (fVar 0)) (gT 2 (gC (gN 1) (gC (gN 2) (gE)))) (bYes) (fVar 1) (fVar 2) [1, 2]))
noncomputable def m_people : FM := fnM false 1 3 (sRet (fA tupleW (fCons (fLc false (seqI (fVar 0)) (gT 2 (gC (gN 1) (gC (gN 2) (gE)))) (bYes) (fVar 1) [1, 2]) (fNil))))
noncomputable def m__law_of : FM := fnM false 2 2 (sRet (f2 idxW (fVar 1) (fA (m__law_take) (fCons (fVar 0) (fCons (fA lenW (fCons (fVar 1) (fNil))) (fNil))))))
end DL
set_option maxRecDepth 100000
set_option maxHeartbeats 400000
namespace DL
open PySem L2
variable [HW]
local macro_rules | `(tactic| walk_at "dl") => `(tactic| simp (config := { dsimp := false }) only [↓fnM_e, ↓sSeq_e, seqK_nx, seqK_rt, seqK_bk, seqK_ct, retK_rt, retK_nx, ↓sFrz_e, frK_some, ↓sAsg, ↓sRet, ↓sRetN, ↓sIf, ↓sExpr, ↓sSkip, ↓sNever, ↓sPar, ↓sFor, ↓sSub, ↓fVar, ↓fC, ↓fNil, ↓fCons, ↓fA, ↓f1, ↓f2, ↓fB, ↓fIf, ↓fNeg, ↓fNot, ↓fAnd, ↓fOr, ↓bNot, ↓bAnd, ↓bOr, ↓bYes, ↓obnd_x, ob_some, ↓sbnd_x, sb_some, ↓ite_x, iteK_t, iteK_f, gN, gT, gC, gE, ↓rng1I, ↓rng2I, ↓seqI, ↓enumA, ↓zipI, ↓strI, ↓fLc, ↓fDc, ↓fM, ↓fSl, ↓oNone, ↓oSome, ↓fRev, wipeE, ↓kwM, permM, permL, List.foldr, List.length_cons, List.length_nil, List.map_cons, List.map_nil, List.cons_append, List.nil_append, List.replicate, List.replicate_succ, List.replicate_zero, List.getElem?_cons_zero, List.getElem?_cons_succ, List.set_cons_zero, List.set_cons_succ, if_true, if_false, reduceIte, Nat.reduceAdd, Nat.reduceSub, Nat.reduceEqDiff, Nat.reduceLT, Nat.reduceLeDiff, Int.reduceLT, Int.reduceLE, Int.reduceNeg, Int.reduceMul, Int.reduceAdd, Int.reduceSub, Int.reduceToNat, Int.reducePow, Int.reduceEq, ok, bok, deref, mkL, lstW, tupW, dats, Option.map_some, appendW, insertW, setL, isL, listW, tupleW, lenW, absW, intC, maxW, minW, idxW, addW, subW_e, modW_e, divW_e, powW_e, mulW, intW, lt_e, gt_e, le_e, ge_e, ltW, allW_e, anyW_e, sumW_e, lW, setW, lstAt, cutW, backW, isW, isiW, iLT_none, iLT_bool, iLT_int, iLT_str, iLT_list, iLT_tup, iL_none, iL_bool, iL_int, iL_str, iL_list, iL_tup, iT_none, iT_bool, iT_int, iT_str, iT_list, iT_tup, iS_none, iS_bool, iS_int, iS_str, iS_list, iS_tup, iI_none, iI_bool, iI_int, iI_str, iI_list, iI_tup, iB_none, iB_bool, iB_int, iB_str, iB_list, iB_tup, Bool.false_eq_true, reduceCtorEq, Bool.not_true, Bool.not_false, decide_true, decide_false, List.zip_cons_cons, List.zip_nil_left, List.foldl_cons, List.foldl_nil, and_self, and_true, true_and, Bool.and_true, Bool.true_and, Bool.or_true, Bool.true_or, *])
def prW (l : Bool) (p : Str × Str) : D := if l = true then .list [.str p.1, .str p.2] else .tuple [.str p.1, .str p.2]
abbrev prT (p : Str × Str) : D := .tuple [.str p.1, .str p.2]
def tld (ps : List (Str × Str)) : List (Str × D) := ps.map fun p => (p.1, .str p.2)
theorem tld_keys (ps : List (Str × Str)) : (tld ps).map (·.1) = ps.map (·.1) := by simp [tld]
def unP : D → Str × D
  | .tuple [.str a, d] => (a, d)
  | .list [.str a, d] => (a, d)
  | _ => ("", .none)
theorem unP_map (l : Bool) (ps : List (Str × Str)) : (ps.map (prW l)).map unP = tld ps := by
  rw [List.map_map]
  unfold tld
  apply List.map_congr_left
  intro p _
  cases l <;> rfl
theorem by_names_ok {x : D} {l : Bool} {ps : List (Str × Str)} {h : Hh} (hx : IsSeq x (ps.map (prW l))) (nd : (ps.map (·.1)).Nodup) (hl : ps.length ≤ 1000) : m_by_names [.dat x] h = some (.dat (.dict (sdic (tld ps))), h) := by
  have e := dcL_sdic (k := gT 2 (gC (gN 1) (gC (gN 2) gE))) (fk := fVar 1) (fv := fVar 2) (ρ := [some (.dat x), none, none]) (h := h) unP (ds := ps.map (prW l)) (l := []) (by rw [List.nil_append, unP_map, tld_keys]; exact nd)
    (by rw [List.nil_append, List.length_map, List.length_map]; exact Nat.le_trans hl (by decide)) (by
      intro d hd
      obtain ⟨p, _, rfl⟩ := List.mem_map.mp hd
      refine ⟨[some (.dat x), some (.dat (.str p.1)), some (.dat (.str p.2))], ?_, ?_, ?_⟩
      · clear hx hd
        cases l <;> (unfold prW; walk_at "dl")
      · cases l <;> rfl
      · cases l <;> rfl)
  rw [List.nil_append, unP_map] at e
  have e' : dcL (gT 2 (gC (gN 1) (gC (gN 2) gE))) bYes (fVar 1) (fVar 2) [some (.dat x), none, none] (ps.map (prW l)) [] h = some (sdic (tld ps), h) := e
  have lv := leave_same' (h := h) (d := .dict (sdic (tld ps)))
  unfold m_by_names
  clear nd hl e
  rcases hx with rfl | rfl <;> (walk_at "dl"; simp only [mkK, Bool.false_eq_true, if_false, obnd_some, retK_rt]; walk_at "dl")
theorem people_ok {x : D} {l : Bool} {ps : List (Str × Str)} {h : Hh} (hx : IsSeq x (ps.map (prW l))) (hl : ps.length ≤ 1000) : m_people [.dat x] h = some (.dat (.tuple ((ps.map (·.1)).map .str)), h) := by
  have e : lcL (gT 2 (gC (gN 1) (gC (gN 2) gE))) bYes (fVar 1) [some (.dat x), none, none] (ps.map (prW l)) h = some ((ps.map (·.1)).map .str, h) := by
    rw [lcL_all (fun d => .str (unP d).1)]
    · rw [List.map_map, List.map_map]
      congr 2
      apply List.map_congr_left
      intro p _
      cases l <;> rfl
    · intro d hd
      obtain ⟨p, _, rfl⟩ := List.mem_map.mp hd
      refine ⟨[some (.dat x), some (.dat (.str p.1)), some (.dat (.str p.2))], ?_, rfl, ?_⟩
      · clear hx hd
        cases l <;> (unfold prW; walk_at "dl")
      · cases l <;> rfl
  have l1 : ((ps.map (·.1)).map PyData.str).length ≤ sizeLine := by rw [List.length_map, List.length_map]; exact Nat.le_trans hl (by decide)
  have lv := leave_same' (h := h) (d := .tuple ((ps.map (·.1)).map .str))
  unfold m_people
  clear hl
  rcases hx with rfl | rfl <;> walk_at "dl"
end DL
set_option maxRecDepth 100000
set_option maxHeartbeats 400000
namespace DL
open PySem L2
variable [HW]
local macro_rules | `(tactic| walk_at "dl") => `(tactic| simp (config := { dsimp := false }) only [↓fnM_e, ↓sSeq_e, seqK_nx, seqK_rt, seqK_bk, seqK_ct, retK_rt, retK_nx, ↓sFrz_e, frK_some, ↓sAsg, ↓sRet, ↓sRetN, ↓sIf, ↓sExpr, ↓sSkip, ↓sNever, ↓sPar, ↓sFor, ↓sSub, ↓fVar, ↓fC, ↓fNil, ↓fCons, ↓fA, ↓f1, ↓f2, ↓fB, ↓fIf, ↓fNeg, ↓fNot, ↓fAnd, ↓fOr, ↓bNot, ↓bAnd, ↓bOr, ↓bYes, ↓obnd_x, ob_some, ↓sbnd_x, sb_some, ↓ite_x, iteK_t, iteK_f, gN, gT, gC, gE, ↓rng1I, ↓rng2I, ↓seqI, ↓enumA, ↓zipI, ↓strI, ↓fLc, ↓fDc, ↓fM, ↓fSl, ↓oNone, ↓oSome, ↓fRev, wipeE, ↓kwM, permM, permL, List.foldr, List.length_cons, List.length_nil, List.map_cons, List.map_nil, List.cons_append, List.nil_append, List.replicate, List.replicate_succ, List.replicate_zero, List.getElem?_cons_zero, List.getElem?_cons_succ, List.set_cons_zero, List.set_cons_succ, if_true, if_false, reduceIte, Nat.reduceAdd, Nat.reduceSub, Nat.reduceEqDiff, Nat.reduceLT, Nat.reduceLeDiff, Int.reduceLT, Int.reduceLE, Int.reduceNeg, Int.reduceMul, Int.reduceAdd, Int.reduceSub, Int.reduceToNat, Int.reducePow, Int.reduceEq, ok, bok, deref, mkL, lstW, tupW, dats, Option.map_some, appendW, insertW, setL, isL, listW, tupleW, lenW, absW, intC, maxW, minW, idxW, addW, subW_e, modW_e, divW_e, powW_e, mulW, intW, lt_e, gt_e, le_e, ge_e, ltW, allW_e, anyW_e, sumW_e, lW, setW, lstAt, cutW, backW, isW, isiW, iLT_none, iLT_bool, iLT_int, iLT_str, iLT_list, iLT_tup, iL_none, iL_bool, iL_int, iL_str, iL_list, iL_tup, iT_none, iT_bool, iT_int, iT_str, iT_list, iT_tup, iS_none, iS_bool, iS_int, iS_str, iS_list, iS_tup, iI_none, iI_bool, iI_int, iI_str, iI_list, iI_tup, iB_none, iB_bool, iB_int, iB_str, iB_list, iB_tup, Bool.false_eq_true, reduceCtorEq, Bool.not_true, Bool.not_false, decide_true, decide_false, List.zip_cons_cons, List.zip_nil_left, List.foldl_cons, List.foldl_nil, and_self, and_true, true_and, Bool.and_true, Bool.true_and, Bool.or_true, Bool.true_or, *])
def goal (ps : List (Str × Str)) (s : Str) : Str := (ps.lookup s).getD s
def keyN (r : List Str) (ps : List (Str × Str)) (s : Str) : Nat × Nat := (r.idxOf (goal ps s), r.idxOf s)
def leK (a b : Nat × Nat) : Bool := decide (a.1 < b.1 ∨ (a.1 = b.1 ∧ a.2 ≤ b.2))
def led (r : List Str) (ps : List (Str × Str)) : List Str := r.mergeSort fun a b => leK (keyN r ps a) (keyN r ps b)
structure CallOf (r : List Str) (ps : List (Str × Str)) : Prop where
  perm : (ps.map (·.1)).Perm r
  tgt : ∀ p ∈ ps, p.2 ∈ r
theorem CallOf.nodup {r : List Str} {ps : List (Str × Str)} (c : CallOf r ps) (nd : r.Nodup) : (ps.map (·.1)).Nodup := c.perm.nodup_iff.mpr nd
theorem CallOf.of_perm {r r' : List Str} {ps : List (Str × Str)} (c : CallOf r ps) (p : r.Perm r') : CallOf r' ps := ⟨c.perm.trans p, fun q hq => p.mem_iff.mp (c.tgt q hq)⟩
theorem look_tld : ∀ (ps : List (Str × Str)) (s : Str), (tld ps).lookup s = (ps.lookup s).map .str
  | [], s => rfl
  | (a, b) :: ps, s => by
    have ih := look_tld ps s
    unfold tld at ih ⊢
    rw [List.map_cons, List.lookup_cons, List.lookup_cons]
    cases s == a with
    | true => rfl
    | false => exact ih
theorem look_mem : ∀ {ps : List (Str × Str)} {s : Str}, s ∈ ps.map (·.1) → ∃ t, ps.lookup s = some t ∧ (s, t) ∈ ps
  | [], s, h => by cases h
  | (a, b) :: ps, s, h => by
    rw [List.lookup_cons]
    cases e : s == a with
    | true =>
      have : s = a := by simpa using e
      subst this
      exact ⟨b, rfl, List.mem_cons_self⟩
    | false =>
      have hne : s ≠ a := by simpa using e
      rw [List.map_cons] at h
      rcases List.mem_cons.mp h with z | h
      · exact absurd z hne
      · obtain ⟨t, h1, h2⟩ := look_mem h
        exact ⟨t, h1, List.mem_cons_of_mem _ h2⟩
theorem CallOf.goal_mem {r : List Str} {ps : List (Str × Str)} (c : CallOf r ps) {s : Str} (hs : s ∈ r) : ps.lookup s = some (goal ps s) ∧ goal ps s ∈ r := by
  obtain ⟨t, h1, h2⟩ := look_mem (c.perm.mem_iff.mpr hs)
  have e : goal ps s = t := by unfold goal; rw [h1]; rfl
  rw [e]
  exact ⟨h1, c.tgt _ h2⟩
end DL
set_option maxRecDepth 100000
set_option maxHeartbeats 400000
namespace DL
open PySem L2
variable [HW]
local macro_rules | `(tactic| walk_at "dl") => `(tactic| simp (config := { dsimp := false }) only [↓fnM_e, ↓sSeq_e, seqK_nx, seqK_rt, seqK_bk, seqK_ct, retK_rt, retK_nx, ↓sFrz_e, frK_some, ↓sAsg, ↓sRet, ↓sRetN, ↓sIf, ↓sExpr, ↓sSkip, ↓sNever, ↓sPar, ↓sFor, ↓sSub, ↓fVar, ↓fC, ↓fNil, ↓fCons, ↓fA, ↓f1, ↓f2, ↓fB, ↓fIf, ↓fNeg, ↓fNot, ↓fAnd, ↓fOr, ↓bNot, ↓bAnd, ↓bOr, ↓bYes, ↓obnd_x, ob_some, ↓sbnd_x, sb_some, ↓ite_x, iteK_t, iteK_f, gN, gT, gC, gE, ↓rng1I, ↓rng2I, ↓seqI, ↓enumA, ↓zipI, ↓strI, ↓fLc, ↓fDc, ↓fM, ↓fSl, ↓oNone, ↓oSome, ↓fRev, wipeE, ↓kwM, permM, permL, List.foldr, List.length_cons, List.length_nil, List.map_cons, List.map_nil, List.cons_append, List.nil_append, List.replicate, List.replicate_succ, List.replicate_zero, List.getElem?_cons_zero, List.getElem?_cons_succ, List.set_cons_zero, List.set_cons_succ, if_true, if_false, reduceIte, Nat.reduceAdd, Nat.reduceSub, Nat.reduceEqDiff, Nat.reduceLT, Nat.reduceLeDiff, Int.reduceLT, Int.reduceLE, Int.reduceNeg, Int.reduceMul, Int.reduceAdd, Int.reduceSub, Int.reduceToNat, Int.reducePow, Int.reduceEq, ok, bok, deref, mkL, lstW, tupW, dats, Option.map_some, appendW, insertW, setL, isL, listW, tupleW, lenW, absW, intC, maxW, minW, idxW, addW, subW_e, modW_e, divW_e, powW_e, mulW, intW, lt_e, gt_e, le_e, ge_e, ltW, allW_e, anyW_e, sumW_e, lW, setW, lstAt, cutW, backW, isW, isiW, iLT_none, iLT_bool, iLT_int, iLT_str, iLT_list, iLT_tup, iL_none, iL_bool, iL_int, iL_str, iL_list, iL_tup, iT_none, iT_bool, iT_int, iT_str, iT_list, iT_tup, iS_none, iS_bool, iS_int, iS_str, iS_list, iS_tup, iI_none, iI_bool, iI_int, iI_str, iI_list, iI_tup, iB_none, iB_bool, iB_int, iB_str, iB_list, iB_tup, Bool.false_eq_true, reduceCtorEq, Bool.not_true, Bool.not_false, decide_true, decide_false, List.zip_cons_cons, List.zip_nil_left, List.foldl_cons, List.foldl_nil, and_self, and_true, true_and, Bool.and_true, Bool.true_and, Bool.or_true, Bool.true_or, *])
theorem prW_false : prW false = prT := by funext p; rfl
theorem of_ok {x : D} {ds : List D} {h : Hh} {b c : Nat} (hx : IsSeq x ds) (hb : BoxAt h b c) (hc : c < 1000000000) (h0 : 0 < ds.length) (h1 : ds.length ≤ 1000) :
    ∃ d h', m__law_of [.ref b, .dat x] h = some (.dat d, h') ∧ d ∈ ds ∧ BoxAt h' b (c + 1) ∧ Only b h h' := by
  obtain ⟨r, h', e, r0, r1, b1, o1⟩ := take_ok (n := (ds.length : Int)) hb (by omega) (by omega) (by omega)
  have hr : r.toNat < ds.length := by omega
  have e2 : L2.atI ds r = some ds[r.toNat] := by
    have := atI_nat (xs := ds) (j := r.toNat) (List.getElem?_eq_getElem hr)
    rwa [show ((r.toNat : Nat) : Int) = r by omega] at this
  obtain ⟨d, hd, e3⟩ : ∃ d, d ∈ ds ∧ L2.atI ds r = some d := ⟨_, List.getElem_mem hr, e2⟩
  refine ⟨d, h', ?_, hd, b1, o1⟩
  have lv := leave_dat' (d := d) hb b1 o1
  unfold m__law_of
  clear e2 hd hb b1 o1 r0 r1 hr h0 h1 hc
  rcases hx with rfl | rfl <;> walk_at "dl"
end DL
set_option maxRecDepth 100000
set_option maxHeartbeats 400000
namespace DL
open PySem L2
variable [HW]
local macro_rules | `(tactic| walk_at "dl") => `(tactic| simp (config := { dsimp := false }) only [↓fnM_e, ↓sSeq_e, seqK_nx, seqK_rt, seqK_bk, seqK_ct, retK_rt, retK_nx, ↓sFrz_e, frK_some, ↓sAsg, ↓sRet, ↓sRetN, ↓sIf, ↓sExpr, ↓sSkip, ↓sNever, ↓sPar, ↓sFor, ↓sSub, ↓fVar, ↓fC, ↓fNil, ↓fCons, ↓fA, ↓f1, ↓f2, ↓fB, ↓fIf, ↓fNeg, ↓fNot, ↓fAnd, ↓fOr, ↓bNot, ↓bAnd, ↓bOr, ↓bYes, ↓obnd_x, ob_some, ↓sbnd_x, sb_some, ↓ite_x, iteK_t, iteK_f, gN, gT, gC, gE, ↓rng1I, ↓rng2I, ↓seqI, ↓enumA, ↓zipI, ↓strI, ↓fLc, ↓fDc, ↓fM, ↓fSl, ↓oNone, ↓oSome, ↓fRev, wipeE, ↓kwM, permM, permL, List.foldr, List.length_cons, List.length_nil, List.map_cons, List.map_nil, List.cons_append, List.nil_append, List.replicate, List.replicate_succ, List.replicate_zero, List.getElem?_cons_zero, List.getElem?_cons_succ, List.set_cons_zero, List.set_cons_succ, if_true, if_false, reduceIte, Nat.reduceAdd, Nat.reduceSub, Nat.reduceEqDiff, Nat.reduceLT, Nat.reduceLeDiff, Int.reduceLT, Int.reduceLE, Int.reduceNeg, Int.reduceMul, Int.reduceAdd, Int.reduceSub, Int.reduceToNat, Int.reducePow, Int.reduceEq, ok, bok, deref, mkL, lstW, tupW, dats, Option.map_some, appendW, insertW, setL, isL, listW, tupleW, lenW, absW, intC, maxW, minW, idxW, addW, subW_e, modW_e, divW_e, powW_e, mulW, intW, lt_e, gt_e, le_e, ge_e, ltW, allW_e, anyW_e, sumW_e, lW, setW, lstAt, cutW, backW, isW, isiW, iLT_none, iLT_bool, iLT_int, iLT_str, iLT_list, iLT_tup, iL_none, iL_bool, iL_int, iL_str, iL_list, iL_tup, iT_none, iT_bool, iT_int, iT_str, iT_list, iT_tup, iS_none, iS_bool, iS_int, iS_str, iS_list, iS_tup, iI_none, iI_bool, iI_int, iI_str, iI_list, iI_tup, iB_none, iB_bool, iB_int, iB_str, iB_list, iB_tup, Bool.false_eq_true, reduceCtorEq, Bool.not_true, Bool.not_false, decide_true, decide_false, List.zip_cons_cons, List.zip_nil_left, List.foldl_cons, List.foldl_nil, and_self, and_true, true_and, Bool.and_true, Bool.true_and, Bool.or_true, Bool.true_or, *])
theorem cut_to {α : Type} (xs : List α) {k : Nat} : cutG xs none (some (k : Int)) = xs.take k := by
  have e : HT.sIx xs.length xs.length (some (k : Int)) = min k xs.length := HT.sIx_nat _ _ _
  have e0 : HT.sIx xs.length 0 none = 0 := rfl
  unfold cutG
  rw [e, e0]
  simp only [List.drop_zero, Nat.sub_zero]
  rw [List.take_eq_take_iff]
  omega
end DL
set_option maxRecDepth 100000
set_option maxHeartbeats 400000
namespace DL
open PySem L2
variable [HW]
local macro_rules | `(tactic| walk_at "dl") => `(tactic| simp (config := { dsimp := false }) only [↓fnM_e, ↓sSeq_e, seqK_nx, seqK_rt, seqK_bk, seqK_ct, retK_rt, retK_nx, ↓sFrz_e, frK_some, ↓sAsg, ↓sRet, ↓sRetN, ↓sIf, ↓sExpr, ↓sSkip, ↓sNever, ↓sPar, ↓sFor, ↓sSub, ↓fVar, ↓fC, ↓fNil, ↓fCons, ↓fA, ↓f1, ↓f2, ↓fB, ↓fIf, ↓fNeg, ↓fNot, ↓fAnd, ↓fOr, ↓bNot, ↓bAnd, ↓bOr, ↓bYes, ↓obnd_x, ob_some, ↓sbnd_x, sb_some, ↓ite_x, iteK_t, iteK_f, gN, gT, gC, gE, ↓rng1I, ↓rng2I, ↓seqI, ↓enumA, ↓zipI, ↓strI, ↓fLc, ↓fDc, ↓fM, ↓fSl, ↓oNone, ↓oSome, ↓fRev, wipeE, ↓kwM, permM, permL, List.foldr, List.length_cons, List.length_nil, List.map_cons, List.map_nil, List.cons_append, List.nil_append, List.replicate, List.replicate_succ, List.replicate_zero, List.getElem?_cons_zero, List.getElem?_cons_succ, List.set_cons_zero, List.set_cons_succ, if_true, if_false, reduceIte, Nat.reduceAdd, Nat.reduceSub, Nat.reduceEqDiff, Nat.reduceLT, Nat.reduceLeDiff, Int.reduceLT, Int.reduceLE, Int.reduceNeg, Int.reduceMul, Int.reduceAdd, Int.reduceSub, Int.reduceToNat, Int.reducePow, Int.reduceEq, ok, bok, deref, mkL, lstW, tupW, dats, Option.map_some, appendW, insertW, setL, isL, listW, tupleW, lenW, absW, intC, maxW, minW, idxW, addW, subW_e, modW_e, divW_e, powW_e, mulW, intW, lt_e, gt_e, le_e, ge_e, ltW, allW_e, anyW_e, sumW_e, lW, setW, lstAt, cutW, backW, isW, isiW, iLT_none, iLT_bool, iLT_int, iLT_str, iLT_list, iLT_tup, iL_none, iL_bool, iL_int, iL_str, iL_list, iL_tup, iT_none, iT_bool, iT_int, iT_str, iT_list, iT_tup, iS_none, iS_bool, iS_int, iS_str, iS_list, iS_tup, iI_none, iI_bool, iI_int, iI_str, iI_list, iI_tup, iB_none, iB_bool, iB_int, iB_str, iB_list, iB_tup, Bool.false_eq_true, reduceCtorEq, Bool.not_true, Bool.not_false, decide_true, decide_false, List.zip_cons_cons, List.zip_nil_left, List.foldl_cons, List.foldl_nil, and_self, and_true, true_and, Bool.and_true, Bool.true_and, Bool.or_true, Bool.true_or, *])
theorem app_take {g : Hh} {o : Option MO} {n : Nat} (e : g.length = n) : (g ++ [o]).take n = g := by
  rw [← e, List.take_append_of_le_length (Nat.le_refl _), List.take_length]
theorem app_get {g : Hh} {o : Option MO} {n : Nat} (e : g.length = n) : (g ++ [o])[n]? = some o := by
  rw [List.getElem?_append_right (by omega), e]; simp
theorem app_set {g : Hh} {o o' : Option MO} {n : Nat} (e : g.length = n) : (g ++ [o]).set n o' = g ++ [o'] := by
  rw [List.set_append_right _ _ (by omega), show n - g.length = 0 by omega]; rfl
end DL
set_option maxRecDepth 100000
set_option maxHeartbeats 400000
namespace DL
open PySem L2
variable [HW]
local macro_rules | `(tactic| walk_at "dl") => `(tactic| simp (config := { dsimp := false }) only [↓fnM_e, ↓sSeq_e, seqK_nx, seqK_rt, seqK_bk, seqK_ct, retK_rt, retK_nx, ↓sFrz_e, frK_some, ↓sAsg, ↓sRet, ↓sRetN, ↓sIf, ↓sExpr, ↓sSkip, ↓sNever, ↓sPar, ↓sFor, ↓sSub, ↓fVar, ↓fC, ↓fNil, ↓fCons, ↓fA, ↓f1, ↓f2, ↓fB, ↓fIf, ↓fNeg, ↓fNot, ↓fAnd, ↓fOr, ↓bNot, ↓bAnd, ↓bOr, ↓bYes, ↓obnd_x, ob_some, ↓sbnd_x, sb_some, ↓ite_x, iteK_t, iteK_f, gN, gT, gC, gE, ↓rng1I, ↓rng2I, ↓seqI, ↓enumA, ↓zipI, ↓strI, ↓fLc, ↓fDc, ↓fM, ↓fSl, ↓oNone, ↓oSome, ↓fRev, wipeE, ↓kwM, permM, permL, List.foldr, List.length_cons, List.length_nil, List.map_cons, List.map_nil, List.cons_append, List.nil_append, List.replicate, List.replicate_succ, List.replicate_zero, List.getElem?_cons_zero, List.getElem?_cons_succ, List.set_cons_zero, List.set_cons_succ, if_true, if_false, reduceIte, Nat.reduceAdd, Nat.reduceSub, Nat.reduceEqDiff, Nat.reduceLT, Nat.reduceLeDiff, Int.reduceLT, Int.reduceLE, Int.reduceNeg, Int.reduceMul, Int.reduceAdd, Int.reduceSub, Int.reduceToNat, Int.reducePow, Int.reduceEq, ok, bok, deref, mkL, lstW, tupW, dats, Option.map_some, appendW, insertW, setL, isL, listW, tupleW, lenW, absW, intC, maxW, minW, idxW, addW, subW_e, modW_e, divW_e, powW_e, mulW, intW, lt_e, gt_e, le_e, ge_e, ltW, allW_e, anyW_e, sumW_e, lW, setW, lstAt, cutW, backW, isW, isiW, iLT_none, iLT_bool, iLT_int, iLT_str, iLT_list, iLT_tup, iL_none, iL_bool, iL_int, iL_str, iL_list, iL_tup, iT_none, iT_bool, iT_int, iT_str, iT_list, iT_tup, iS_none, iS_bool, iS_int, iS_str, iS_list, iS_tup, iI_none, iI_bool, iI_int, iI_str, iI_list, iI_tup, iB_none, iB_bool, iB_int, iB_str, iB_list, iB_tup, Bool.false_eq_true, reduceCtorEq, Bool.not_true, Bool.not_false, decide_true, decide_false, List.zip_cons_cons, List.zip_nil_left, List.foldl_cons, List.foldl_nil, and_self, and_true, true_and, Bool.and_true, Bool.true_and, Bool.or_true, Bool.true_or, *])
def NameOk (s : Str) : Prop := 1 ≤ s.length ∧ s.length ≤ 6 ∧ ∀ c ∈ s.cps.toList, 97 ≤ c ∧ c ≤ 122
theorem nm_name {st sp a : Nat} : NameOk (nm st sp a) := by
  refine ⟨?_, ?_, fun c hc => ?_⟩
  · unfold nm
    rw [len_app]
    show 1 ≤ 1 + _
    omega
  · unfold nm
    rw [len_app]
    have := sfx_le (a % 2 * (1 + st % 2))
    show 1 + _ ≤ _
    omega
  · rw [nm_cps] at hc
    rcases List.mem_cons.mp hc with rfl | hc
    · omega
    · generalize a % 2 * (1 + st % 2) = k at hc
      match k, hc with
      | 0, hc => rw [sfx_len.1] at hc; cases hc
      | 1, hc => rw [sfx_len.2.1] at hc; simp at hc; omega
      | _ + 2, hc =>
        have hc' : c ∈ (sfx 2).cps.toList := hc
        rw [sfx_len.2.2] at hc'; simp at hc'; omega
theorem Crew.names {most : Nat} {rs : List Str} (h : Crew most rs) : ∀ s ∈ rs, NameOk s := fun s hs => by
  obtain ⟨st, sp, a, _, _, rfl⟩ := h.nam s hs
  exact nm_name
end DL
set_option maxRecDepth 100000
set_option maxHeartbeats 400000
namespace DL
open PySem L2
variable [HW]
end DL
set_option maxRecDepth 100000
set_option maxHeartbeats 400000
namespace DL
open PySem L2
variable [HW]
local macro_rules | `(tactic| walk_at "dl") => `(tactic| simp (config := { dsimp := false }) only [↓fnM_e, ↓sSeq_e, seqK_nx, seqK_rt, seqK_bk, seqK_ct, retK_rt, retK_nx, ↓sFrz_e, frK_some, ↓sAsg, ↓sRet, ↓sRetN, ↓sIf, ↓sExpr, ↓sSkip, ↓sNever, ↓sPar, ↓sFor, ↓sSub, ↓fVar, ↓fC, ↓fNil, ↓fCons, ↓fA, ↓f1, ↓f2, ↓fB, ↓fIf, ↓fNeg, ↓fNot, ↓fAnd, ↓fOr, ↓bNot, ↓bAnd, ↓bOr, ↓bYes, ↓obnd_x, ob_some, ↓sbnd_x, sb_some, ↓ite_x, iteK_t, iteK_f, gN, gT, gC, gE, ↓rng1I, ↓rng2I, ↓seqI, ↓enumA, ↓zipI, ↓strI, ↓fLc, ↓fDc, ↓fM, ↓fSl, ↓oNone, ↓oSome, ↓fRev, wipeE, ↓kwM, permM, permL, List.foldr, List.length_cons, List.length_nil, List.map_cons, List.map_nil, List.cons_append, List.nil_append, List.replicate, List.replicate_succ, List.replicate_zero, List.getElem?_cons_zero, List.getElem?_cons_succ, List.set_cons_zero, List.set_cons_succ, if_true, if_false, reduceIte, Nat.reduceAdd, Nat.reduceSub, Nat.reduceEqDiff, Nat.reduceLT, Nat.reduceLeDiff, Int.reduceLT, Int.reduceLE, Int.reduceNeg, Int.reduceMul, Int.reduceAdd, Int.reduceSub, Int.reduceToNat, Int.reducePow, Int.reduceEq, ok, bok, deref, mkL, lstW, tupW, dats, Option.map_some, appendW, insertW, setL, isL, listW, tupleW, lenW, absW, intC, maxW, minW, idxW, addW, subW_e, modW_e, divW_e, powW_e, mulW, intW, lt_e, gt_e, le_e, ge_e, ltW, allW_e, anyW_e, sumW_e, lW, setW, lstAt, cutW, backW, isW, isiW, iLT_none, iLT_bool, iLT_int, iLT_str, iLT_list, iLT_tup, iL_none, iL_bool, iL_int, iL_str, iL_list, iL_tup, iT_none, iT_bool, iT_int, iT_str, iT_list, iT_tup, iS_none, iS_bool, iS_int, iS_str, iS_list, iS_tup, iI_none, iI_bool, iI_int, iI_str, iI_list, iI_tup, iB_none, iB_bool, iB_int, iB_str, iB_list, iB_tup, Bool.false_eq_true, reduceCtorEq, Bool.not_true, Bool.not_false, decide_true, decide_false, List.zip_cons_cons, List.zip_nil_left, List.foldl_cons, List.foldl_nil, and_self, and_true, true_and, Bool.and_true, Bool.true_and, Bool.or_true, Bool.true_or, *])
end DL
namespace DL
open PySem L2
variable [HW]
noncomputable def m_gone : FM := fnM false 2 4 (sSeq (sPar (fCons (f2 idxW (fVar 0) (f2 idxW (fVar 1) (fC (.int 0)))) (fCons (f2 idxW (fVar 0) (f2 idxW (fVar 1) (fC (.int 1)))) (fNil))) [2, 3])
    (sRet (fIf (fB (f2 (eqW false) (fVar 2) (fVar 3))) (fVar 1) (fA tupW (fCons (fVar 2) (fCons (fVar 3) (fNil)))))))
noncomputable def m_ways_back : FM := fnM false 1 2 (sRet (fLc false (revI (fVar 0)) (gN 1) (bYes) (fA (m_by_names) (fCons (fVar 1) (fNil))) [1]))
noncomputable def m_walked : FM := fnM false 2 4 (sSeq (sAsg (fA (lstW true) (fCons (fVar 1) (fNil))) (gN 2))
    (sSeq (sFor (seqI (fVar 0)) (gN 3)
    (sExpr (fM isL appendW (fVar 2) (fCons (fA (m_gone) (fCons (fVar 3) (fCons (f2 idxW (fVar 2) (fNeg (fC (.int 1)))) (fNil)))) (fNil)))))
    (sRet (fVar 2))))
end DL
set_option maxRecDepth 100000
set_option maxHeartbeats 400000
namespace DL
open PySem L2
variable [HW]
local macro_rules | `(tactic| walk_at "dl") => `(tactic| simp (config := { dsimp := false }) only [↓fnM_e, ↓sSeq_e, seqK_nx, seqK_rt, seqK_bk, seqK_ct, retK_rt, retK_nx, ↓sFrz_e, frK_some, ↓sAsg, ↓sRet, ↓sRetN, ↓sIf, ↓sExpr, ↓sSkip, ↓sNever, ↓sPar, ↓sFor, ↓sSub, ↓fVar, ↓fC, ↓fNil, ↓fCons, ↓fA, ↓f1, ↓f2, ↓fB, ↓fIf, ↓fNeg, ↓fNot, ↓fAnd, ↓fOr, ↓bNot, ↓bAnd, ↓bOr, ↓bYes, ↓obnd_x, ob_some, ↓sbnd_x, sb_some, ↓ite_x, iteK_t, iteK_f, gN, gT, gC, gE, ↓rng1I, ↓rng2I, ↓seqI, ↓enumA, ↓zipI, ↓strI, ↓fLc, ↓fDc, ↓fM, ↓fSl, ↓oNone, ↓oSome, ↓fRev, wipeE, ↓kwM, permM, permL, List.foldr, List.length_cons, List.length_nil, List.map_cons, List.map_nil, List.cons_append, List.nil_append, List.replicate, List.replicate_succ, List.replicate_zero, List.getElem?_cons_zero, List.getElem?_cons_succ, List.set_cons_zero, List.set_cons_succ, if_true, if_false, reduceIte, Nat.reduceAdd, Nat.reduceSub, Nat.reduceEqDiff, Nat.reduceLT, Nat.reduceLeDiff, Int.reduceLT, Int.reduceLE, Int.reduceNeg, Int.reduceMul, Int.reduceAdd, Int.reduceSub, Int.reduceToNat, Int.reducePow, Int.reduceEq, ok, bok, deref, mkL, lstW, tupW, dats, Option.map_some, appendW, insertW, setL, isL, listW, tupleW, lenW, absW, intC, maxW, minW, idxW, addW, subW_e, modW_e, divW_e, powW_e, mulW, intW, lt_e, gt_e, le_e, ge_e, ltW, allW_e, anyW_e, sumW_e, lW, setW, lstAt, cutW, backW, isW, isiW, iLT_none, iLT_bool, iLT_int, iLT_str, iLT_list, iLT_tup, iL_none, iL_bool, iL_int, iL_str, iL_list, iL_tup, iT_none, iT_bool, iT_int, iT_str, iT_list, iT_tup, iS_none, iS_bool, iS_int, iS_str, iS_list, iS_tup, iI_none, iI_bool, iI_int, iI_str, iI_list, iI_tup, iB_none, iB_bool, iB_int, iB_str, iB_list, iB_tup, Bool.false_eq_true, reduceCtorEq, Bool.not_true, Bool.not_false, decide_true, decide_false, List.zip_cons_cons, List.zip_nil_left, List.foldl_cons, List.foldl_nil, and_self, and_true, true_and, Bool.and_true, Bool.true_and, Bool.or_true, Bool.true_or, *])
structure Folk (most : Nat) (rs : List Str) : Prop where
  nd : rs.Nodup
  pos : 0 < rs.length
  le : rs.length ≤ most
  nam : ∀ s ∈ rs, NameOk s
theorem NameOk.txt {s : Str} (h : NameOk s) : TxtOk s := ⟨by have := h.2.1; omega, fun c hc => by have := h.2.2 c hc; omega⟩
theorem Folk.perm {n : Nat} {rs ms : List Str} (h : Folk n rs) (p : ms.Perm rs) : Folk n ms := ⟨p.nodup_iff.mpr h.nd, by rw [p.length_eq]; exact h.pos, by rw [p.length_eq]; exact h.le, fun s hs => h.nam s (p.mem_iff.mp hs)⟩
abbrev qqq : Str := "qqq"
theorem qqq_cps : qqq.cps.toList = [113, 113, 113] := by decide +kernel
theorem qqq_nm {st sp a : Nat} : nm st sp a ≠ qqq := fun e => by
  have e' := congrArg (fun s : Str => s.cps.toList) e
  simp only [nm_cps, qqq_cps] at e'
  injection e' with _ e2
  generalize a % 2 * (1 + st % 2) = k at e2
  match k, e2 with
  | 0, e2 => rw [sfx_len.1] at e2; cases e2
  | 1, e2 => rw [sfx_len.2.1] at e2; simp at e2
  | _ + 2, e2 =>
    have e3 : (sfx 2).cps.toList = [113, 113] := e2
    rw [sfx_len.2.2] at e3; simp at e3
theorem qqq_len : qqq.length = 3 := by decide +kernel
theorem Crew.more {n : Nat} {rs : List Str} (h : Crew n rs) : Folk (n + 1) (rs ++ [qqq]) ∧ 2 ≤ (rs ++ [qqq]).length := by
  refine ⟨⟨?_, by simp, by simp; exact h.le, fun s hs => ?_⟩, by simp; exact h.pos⟩
  · rw [List.nodup_append]
    refine ⟨h.nd, by simp, fun a ha b hb e => ?_⟩
    rw [List.mem_singleton] at hb
    subst hb e
    obtain ⟨st, sp, x, _, _, e⟩ := h.nam _ ha
    exact qqq_nm e.symm
  · rcases List.mem_append.mp hs with hs | hs
    · exact h.names s hs
    · rw [List.mem_singleton] at hs
      subst hs
      refine ⟨by rw [qqq_len]; omega, by rw [qqq_len]; omega, fun c hc => ?_⟩
      rw [qqq_cps] at hc
      simp at hc
      omega
abbrev Words (r : List Str) (ws : List (List (Str × Str))) : Prop := ∀ ps ∈ ws, CallOf r ps
theorem Words.perm {r r' : List Str} {ws : List (List (Str × Str))} (h : Words r ws) (p : r.Perm r') : Words r' ws := fun ps hp => (h ps hp).of_perm p
end DL
set_option maxRecDepth 100000
set_option maxHeartbeats 400000
namespace DL
open PySem L2
variable [HW]
local macro_rules | `(tactic| walk_at "dl") => `(tactic| simp (config := { dsimp := false }) only [↓fnM_e, ↓sSeq_e, seqK_nx, seqK_rt, seqK_bk, seqK_ct, retK_rt, retK_nx, ↓sFrz_e, frK_some, ↓sAsg, ↓sRet, ↓sRetN, ↓sIf, ↓sExpr, ↓sSkip, ↓sNever, ↓sPar, ↓sFor, ↓sSub, ↓fVar, ↓fC, ↓fNil, ↓fCons, ↓fA, ↓f1, ↓f2, ↓fB, ↓fIf, ↓fNeg, ↓fNot, ↓fAnd, ↓fOr, ↓bNot, ↓bAnd, ↓bOr, ↓bYes, ↓obnd_x, ob_some, ↓sbnd_x, sb_some, ↓ite_x, iteK_t, iteK_f, gN, gT, gC, gE, ↓rng1I, ↓rng2I, ↓seqI, ↓enumA, ↓zipI, ↓strI, ↓fLc, ↓fDc, ↓fM, ↓fSl, ↓oNone, ↓oSome, ↓fRev, wipeE, ↓kwM, permM, permL, List.foldr, List.length_cons, List.length_nil, List.map_cons, List.map_nil, List.cons_append, List.nil_append, List.replicate, List.replicate_succ, List.replicate_zero, List.getElem?_cons_zero, List.getElem?_cons_succ, List.set_cons_zero, List.set_cons_succ, if_true, if_false, reduceIte, Nat.reduceAdd, Nat.reduceSub, Nat.reduceEqDiff, Nat.reduceLT, Nat.reduceLeDiff, Int.reduceLT, Int.reduceLE, Int.reduceNeg, Int.reduceMul, Int.reduceAdd, Int.reduceSub, Int.reduceToNat, Int.reducePow, Int.reduceEq, ok, bok, deref, mkL, lstW, tupW, dats, Option.map_some, appendW, insertW, setL, isL, listW, tupleW, lenW, absW, intC, maxW, minW, idxW, addW, subW_e, modW_e, divW_e, powW_e, mulW, intW, lt_e, gt_e, le_e, ge_e, ltW, allW_e, anyW_e, sumW_e, lW, setW, lstAt, cutW, backW, isW, isiW, iLT_none, iLT_bool, iLT_int, iLT_str, iLT_list, iLT_tup, iL_none, iL_bool, iL_int, iL_str, iL_list, iL_tup, iT_none, iT_bool, iT_int, iT_str, iT_list, iT_tup, iS_none, iS_bool, iS_int, iS_str, iS_list, iS_tup, iI_none, iI_bool, iI_int, iI_str, iI_list, iI_tup, iB_none, iB_bool, iB_int, iB_str, iB_list, iB_tup, Bool.false_eq_true, reduceCtorEq, Bool.not_true, Bool.not_false, decide_true, decide_false, List.zip_cons_cons, List.zip_nil_left, List.foldl_cons, List.foldl_nil, and_self, and_true, true_and, Bool.and_true, Bool.true_and, Bool.or_true, Bool.true_or, *])
def goneP (ps : List (Str × Str)) (p : Str × Str) : Str × Str := if goal ps p.1 = goal ps p.2 then p else (goal ps p.1, goal ps p.2)
def walkL : List (List (Str × Str)) → Str × Str → List (Str × Str)
  | [], p => [p]
  | ps :: ws, p => p :: walkL ws (goneP ps p)
def lastW (ws : List (List (Str × Str))) (p : Str × Str) : Str × Str := ws.foldl (fun q ps => goneP ps q) p
theorem walkL_snoc (ps : List (Str × Str)) : ∀ (ws : List (List (Str × Str))) (p : Str × Str), walkL (ws ++ [ps]) p = walkL ws p ++ [goneP ps (lastW ws p)]
  | [], p => rfl
  | qs :: ws, p => by
    show p :: walkL (ws ++ [ps]) (goneP qs p) = p :: (walkL ws (goneP qs p) ++ _)
    rw [walkL_snoc ps ws]; rfl
theorem walkL_len : ∀ (ws : List (List (Str × Str))) (p : Str × Str), (walkL ws p).length = ws.length + 1
  | [], p => rfl
  | qs :: ws, p => by rw [walkL, List.length_cons, walkL_len ws, List.length_cons]
theorem walkL_last : ∀ (ws : List (List (Str × Str))) (p : Str × Str), ∃ l, walkL ws p = l ++ [lastW ws p]
  | [], p => ⟨[], rfl⟩
  | qs :: ws, p => by
    obtain ⟨l, e⟩ := walkL_last ws (goneP qs p)
    exact ⟨p :: l, by rw [walkL, e]; rfl⟩
theorem goneP_in {r : List Str} {ps : List (Str × Str)} (c : CallOf r ps) {p : Str × Str} (h1 : p.1 ∈ r) (h2 : p.2 ∈ r) : (goneP ps p).1 ∈ r ∧ (goneP ps p).2 ∈ r := by
  unfold goneP
  split
  · exact ⟨h1, h2⟩
  · exact ⟨(c.goal_mem h1).2, (c.goal_mem h2).2⟩
theorem lastW_in {r : List Str} : ∀ {ws : List (List (Str × Str))}, Words r ws → ∀ {p : Str × Str}, p.1 ∈ r → p.2 ∈ r → (lastW ws p).1 ∈ r ∧ (lastW ws p).2 ∈ r
  | [], _, p, h1, h2 => ⟨h1, h2⟩
  | ps :: ws, c, p, h1, h2 => by
    obtain ⟨q1, q2⟩ := goneP_in (c ps List.mem_cons_self) h1 h2
    exact lastW_in (ws := ws) (fun q hq => c q (List.mem_cons_of_mem _ hq)) q1 q2
abbrev dW (ps : List (Str × Str)) : D := .dict (sdic (tld ps))
theorem eqW_strs {neg : Bool} {i j : Str} {h : Hh} : eqW neg (.dat (.str i)) (.dat (.str j)) h = bok (if neg = true then !decide (i = j) else decide (i = j)) h := by
  unfold eqW
  simp only [deref, eqS]
theorem gone_ok {r : List Str} {ps : List (Str × Str)} {p : Str × Str} {h : Hh} (c : CallOf r ps) (h1 : p.1 ∈ r) (h2 : p.2 ∈ r) : m_gone [.dat (dW ps), .dat (prT p)] h = some (.dat (prT (goneP ps p)), h) := by
  obtain ⟨k1, _⟩ := c.goal_mem h1
  obtain ⟨k2, _⟩ := c.goal_mem h2
  have g1 : getD (sdic (tld ps)) (.str p.1) = some (some (.str (goal ps p.1))) := by rw [getD_sdic, look_tld, k1]; rfl
  have g2 : getD (sdic (tld ps)) (.str p.2) = some (some (.str (goal ps p.2))) := by rw [getD_sdic, look_tld, k2]; rfl
  have a0 : L2.atI [PyData.str p.1, .str p.2] 0 = some (.str p.1) := rfl
  have a1 : L2.atI [PyData.str p.1, .str p.2] 1 = some (.str p.2) := rfl
  have e3 := eqW_strs (neg := false) (i := goal ps p.1) (j := goal ps p.2) (h := h)
  have c2 : 2 ≤ sizeLine := by decide
  have lv := fun d : D => leave_same' (h := h) (d := d)
  unfold m_gone goneP
  by_cases z : goal ps p.1 = goal ps p.2
  · rw [if_pos z]
    have z' : decide (goal ps p.1 = goal ps p.2) = true := by simpa using z
    clear c h1 h2 k1 k2 z
    walk_at "dl"
  · rw [if_neg z]
    have z' : decide (goal ps p.1 = goal ps p.2) = false := by simpa using z
    clear c h1 h2 k1 k2 z
    walk_at "dl"
def cD (l : Bool) (ps : List (Str × Str)) : D := if l = true then .list (ps.map (prW true)) else .tuple (ps.map prT)
theorem cD_seq (l : Bool) (ps : List (Str × Str)) : IsSeq (cD l ps) (ps.map (prW l)) := by
  cases l
  · exact .inr (by rw [prW_false]; rfl)
  · exact .inl rfl
theorem ways_ok {x : D} {l : Bool} {r : List Str} {ws : List (List (Str × Str))} {h : Hh} (hx : IsSeq x (ws.map (cD l))) (c : Words r ws) (nd : r.Nodup) (hr : r.length ≤ 1000) (hw : ws.length ≤ 1000) : m_ways_back [.dat x] h = some (.dat (.list (ws.reverse.map dW)), h) := by
  have hz : sizeLine = 16777216 := rfl
  have e1 : lcL (gN 1) bYes (fA (m_by_names) (fCons (fVar 1) (fNil))) [some (.dat x), none] (ws.reverse.map (cD l)) h = some (ws.reverse.map dW, h) := by
    have : ∀ vs : List (List (Str × Str)), (∀ v ∈ vs, CallOf r v) → lcL (gN 1) bYes (fA (m_by_names) (fCons (fVar 1) (fNil))) [some (.dat x), none] (vs.map (cD l)) h = some (vs.map dW, h) := fun vs => by
      induction vs with
      | nil => exact fun _ => rfl
      | cons ps vs ih =>
        intro H
        have hc := H ps List.mem_cons_self
        have hl : ps.length = r.length := by have := hc.perm.length_eq; rw [List.length_map] at this; exact this
        have e := by_names_ok (h := h) (cD_seq l ps) (hc.nodup nd) (by omega)
        have ih := ih fun v hv => H v (List.mem_cons_of_mem _ hv)
        have e' : fA (m_by_names) (fCons (fVar 1) (fNil)) [some (.dat x), some (.dat (cD l ps))] h = some (.dat (dW ps), h) := by
          clear hx c nd hr hw hz hc hl ih H
          walk_at "dl"
        rw [List.map_cons, List.map_cons]
        unfold lcL
        have k : gN 1 (.dat (cD l ps)) [some (.dat x), none] h = some [some (.dat x), some (.dat (cD l ps))] := rfl
        simp only [k, bYes, obnd, if_true, e', ih]
    exact this _ fun v hv => c v (List.mem_reverse.mp hv)
  have l1 : (ws.reverse.map dW).length ≤ sizeLine := by rw [List.length_map, List.length_reverse]; omega
  have lv := leave_same' (h := h) (d := .list (ws.reverse.map dW))
  rw [List.map_reverse] at e1
  unfold m_ways_back revI
  clear c nd hr hw hz
  rcases hx with rfl | rfl <;> walk_at "dl"
end DL
set_option maxRecDepth 100000
set_option maxHeartbeats 400000
namespace DL
open PySem L2
variable [HW]
local macro_rules | `(tactic| walk_at "dl") => `(tactic| simp (config := { dsimp := false }) only [↓fnM_e, ↓sSeq_e, seqK_nx, seqK_rt, seqK_bk, seqK_ct, retK_rt, retK_nx, ↓sFrz_e, frK_some, ↓sAsg, ↓sRet, ↓sRetN, ↓sIf, ↓sExpr, ↓sSkip, ↓sNever, ↓sPar, ↓sFor, ↓sSub, ↓fVar, ↓fC, ↓fNil, ↓fCons, ↓fA, ↓f1, ↓f2, ↓fB, ↓fIf, ↓fNeg, ↓fNot, ↓fAnd, ↓fOr, ↓bNot, ↓bAnd, ↓bOr, ↓bYes, ↓obnd_x, ob_some, ↓sbnd_x, sb_some, ↓ite_x, iteK_t, iteK_f, gN, gT, gC, gE, ↓rng1I, ↓rng2I, ↓seqI, ↓enumA, ↓zipI, ↓strI, ↓fLc, ↓fDc, ↓fM, ↓fSl, ↓oNone, ↓oSome, ↓fRev, wipeE, ↓kwM, permM, permL, List.foldr, List.length_cons, List.length_nil, List.map_cons, List.map_nil, List.cons_append, List.nil_append, List.replicate, List.replicate_succ, List.replicate_zero, List.getElem?_cons_zero, List.getElem?_cons_succ, List.set_cons_zero, List.set_cons_succ, if_true, if_false, reduceIte, Nat.reduceAdd, Nat.reduceSub, Nat.reduceEqDiff, Nat.reduceLT, Nat.reduceLeDiff, Int.reduceLT, Int.reduceLE, Int.reduceNeg, Int.reduceMul, Int.reduceAdd, Int.reduceSub, Int.reduceToNat, Int.reducePow, Int.reduceEq, ok, bok, deref, mkL, lstW, tupW, dats, Option.map_some, appendW, insertW, setL, isL, listW, tupleW, lenW, absW, intC, maxW, minW, idxW, addW, subW_e, modW_e, divW_e, powW_e, mulW, intW, lt_e, gt_e, le_e, ge_e, ltW, allW_e, anyW_e, sumW_e, lW, setW, lstAt, cutW, backW, isW, isiW, iLT_none, iLT_bool, iLT_int, iLT_str, iLT_list, iLT_tup, iL_none, iL_bool, iL_int, iL_str, iL_list, iL_tup, iT_none, iT_bool, iT_int, iT_str, iT_list, iT_tup, iS_none, iS_bool, iS_int, iS_str, iS_list, iS_tup, iI_none, iI_bool, iI_int, iI_str, iI_list, iI_tup, iB_none, iB_bool, iB_int, iB_str, iB_list, iB_tup, Bool.false_eq_true, reduceCtorEq, Bool.not_true, Bool.not_false, decide_true, decide_false, List.zip_cons_cons, List.zip_nil_left, List.foldl_cons, List.foldl_nil, and_self, and_true, true_and, Bool.and_true, Bool.true_and, Bool.or_true, Bool.true_or, *])
theorem atI_neg1 {α : Type} (l : List α) (x : α) : L2.atI (l ++ [x]) (-1) = some x := atI_last l x
theorem walked_ok {r : List Str} {ws : List (List (Str × Str))} {p : Str × Str} {h : Hh} (c : Words r ws) (h1 : p.1 ∈ r) (h2 : p.2 ∈ r) (hw : ws.length ≤ 1000) : m_walked [.dat (.list (ws.map dW)), .dat (prT p)] h = some (.dat (.list ((walkL ws p).map prT)), h) := by
  have hz : sizeLine = 16777216 := rfl
  have key := forL_inv (k := gN 3) (body := sExpr (fM isL appendW (fVar 2) (fCons (fA (m_gone) (fCons (fVar 3) (fCons (f2 idxW (fVar 2) (fNeg (fC (.int 1)))) (fNil)))) (fNil))))
    (fun n ρ g => ∃ v : Option W, ρ = [some (.dat (.list (ws.map dW))), some (.dat (prT p)), some (.ref h.length), v] ∧ g = h ++ [some (.lst ((walkL (ws.take n) p).map prT))]) (ds := ws.map dW) (n := 0)
    (ρ := [some (.dat (.list (ws.map dW))), some (.dat (prT p)), some (.ref h.length), none]) (h := h ++ [some (.lst [prT p])]) ⟨none, rfl, rfl⟩ (by
      intro j d ej ρ g hi
      obtain ⟨v, rfl, rfl⟩ := hi
      rw [Nat.zero_add]
      rw [List.getElem?_map] at ej
      obtain ⟨ps, ep, rfl⟩ := Option.map_eq_some_iff.mp ej
      have hj : j < ws.length := (List.getElem?_eq_some_iff.mp ep).1
      have hc : CallOf r ps := c ps (List.mem_of_getElem? ep)
      obtain ⟨m1, m2⟩ := lastW_in (ws := ws.take j) (fun q hq => c q (List.mem_of_mem_take hq)) h1 h2
      have e1 := gone_ok (h := h ++ [some (.lst ((walkL (ws.take j) p).map prT))]) hc m1 m2
      obtain ⟨l, el⟩ := walkL_last (ws.take j) p
      have al : L2.atI ((walkL (ws.take j) p).map prT) (-1) = some (prT (lastW (ws.take j) p)) := by rw [el, List.map_append]; exact atI_neg1 _ _
      have hg : (h ++ [some (MO.lst ((walkL (ws.take j) p).map prT))])[h.length]? = some (some (.lst ((walkL (ws.take j) p).map prT))) := app_get rfl
      have hl : ((walkL (ws.take j) p).map prT).length < sizeLine := by rw [List.length_map, walkL_len, List.length_take]; omega
      have hs : (h ++ [some (MO.lst ((walkL (ws.take j) p).map prT))]).set h.length (some (.lst ((walkL (ws.take j) p).map prT ++ [prT (goneP ps (lastW (ws.take j) p))]))) = h ++ [some (.lst ((walkL (ws.take (j + 1)) p).map prT))] := by
        rw [app_set rfl, take_snoc ep, walkL_snoc, List.map_append]; rfl
      refine ⟨_, _, _, rfl, ?_, some (.dat (dW ps)), rfl, rfl⟩
      clear c h1 h2 hw hz ej ep hj hc m1 m2 el
      generalize (walkL (ws.take j) p).map prT = wl at *
      walk_at "dl")
  obtain ⟨ρ', h', e, v, rfl, rfl⟩ := key
  rw [Nat.zero_add, List.length_map, List.take_length] at e
  have hg : (h ++ [some (MO.lst ((walkL ws p).map prT))])[h.length]? = some (some (.lst ((walkL ws p).map prT))) := app_get rfl
  have et : (h ++ [some (MO.lst ((walkL ws p).map prT))]).take h.length = h := app_take rfl
  have nl : ¬ h.length < h.length := by omega
  have c1 : 1 ≤ sizeLine := by omega
  unfold m_walked
  clear c h1 h2 hw hz
  generalize (walkL ws p).map prT = wl at *
  walk_at "dl"
  unfold leave
  walk_at "dl"
abbrev rowT (r : List Str) : D := .tuple (r.map .str)
end DL
set_option maxRecDepth 100000
set_option maxHeartbeats 400000
namespace DL
open PySem L2
variable [HW]
local macro_rules | `(tactic| walk_at "dl") => `(tactic| simp (config := { dsimp := false }) only [↓fnM_e, ↓sSeq_e, seqK_nx, seqK_rt, seqK_bk, seqK_ct, retK_rt, retK_nx, ↓sFrz_e, frK_some, ↓sAsg, ↓sRet, ↓sRetN, ↓sIf, ↓sExpr, ↓sSkip, ↓sNever, ↓sPar, ↓sFor, ↓sSub, ↓fVar, ↓fC, ↓fNil, ↓fCons, ↓fA, ↓f1, ↓f2, ↓fB, ↓fIf, ↓fNeg, ↓fNot, ↓fAnd, ↓fOr, ↓bNot, ↓bAnd, ↓bOr, ↓bYes, ↓obnd_x, ob_some, ↓sbnd_x, sb_some, ↓ite_x, iteK_t, iteK_f, gN, gT, gC, gE, ↓rng1I, ↓rng2I, ↓seqI, ↓enumA, ↓zipI, ↓strI, ↓fLc, ↓fDc, ↓fM, ↓fSl, ↓oNone, ↓oSome, ↓fRev, wipeE, ↓kwM, permM, permL, List.foldr, List.length_cons, List.length_nil, List.map_cons, List.map_nil, List.cons_append, List.nil_append, List.replicate, List.replicate_succ, List.replicate_zero, List.getElem?_cons_zero, List.getElem?_cons_succ, List.set_cons_zero, List.set_cons_succ, if_true, if_false, reduceIte, Nat.reduceAdd, Nat.reduceSub, Nat.reduceEqDiff, Nat.reduceLT, Nat.reduceLeDiff, Int.reduceLT, Int.reduceLE, Int.reduceNeg, Int.reduceMul, Int.reduceAdd, Int.reduceSub, Int.reduceToNat, Int.reducePow, Int.reduceEq, ok, bok, deref, mkL, lstW, tupW, dats, Option.map_some, appendW, insertW, setL, isL, listW, tupleW, lenW, absW, intC, maxW, minW, idxW, addW, subW_e, modW_e, divW_e, powW_e, mulW, intW, lt_e, gt_e, le_e, ge_e, ltW, allW_e, anyW_e, sumW_e, lW, setW, lstAt, cutW, backW, isW, isiW, iLT_none, iLT_bool, iLT_int, iLT_str, iLT_list, iLT_tup, iL_none, iL_bool, iL_int, iL_str, iL_list, iL_tup, iT_none, iT_bool, iT_int, iT_str, iT_list, iT_tup, iS_none, iS_bool, iS_int, iS_str, iS_list, iS_tup, iI_none, iI_bool, iI_int, iI_str, iI_list, iI_tup, iB_none, iB_bool, iB_int, iB_str, iB_list, iB_tup, Bool.false_eq_true, reduceCtorEq, Bool.not_true, Bool.not_false, decide_true, decide_false, List.zip_cons_cons, List.zip_nil_left, List.foldl_cons, List.foldl_nil, and_self, and_true, true_and, Bool.and_true, Bool.true_and, Bool.or_true, Bool.true_or, *])
end DL
set_option maxRecDepth 100000
set_option maxHeartbeats 400000
namespace DL
open PySem L2
variable [HW]
local macro_rules | `(tactic| walk_at "dl") => `(tactic| simp (config := { dsimp := false }) only [↓fnM_e, ↓sSeq_e, seqK_nx, seqK_rt, seqK_bk, seqK_ct, retK_rt, retK_nx, ↓sFrz_e, frK_some, ↓sAsg, ↓sRet, ↓sRetN, ↓sIf, ↓sExpr, ↓sSkip, ↓sNever, ↓sPar, ↓sFor, ↓sSub, ↓fVar, ↓fC, ↓fNil, ↓fCons, ↓fA, ↓f1, ↓f2, ↓fB, ↓fIf, ↓fNeg, ↓fNot, ↓fAnd, ↓fOr, ↓bNot, ↓bAnd, ↓bOr, ↓bYes, ↓obnd_x, ob_some, ↓sbnd_x, sb_some, ↓ite_x, iteK_t, iteK_f, gN, gT, gC, gE, ↓rng1I, ↓rng2I, ↓seqI, ↓enumA, ↓zipI, ↓strI, ↓fLc, ↓fDc, ↓fM, ↓fSl, ↓oNone, ↓oSome, ↓fRev, wipeE, ↓kwM, permM, permL, List.foldr, List.length_cons, List.length_nil, List.map_cons, List.map_nil, List.cons_append, List.nil_append, List.replicate, List.replicate_succ, List.replicate_zero, List.getElem?_cons_zero, List.getElem?_cons_succ, List.set_cons_zero, List.set_cons_succ, if_true, if_false, reduceIte, Nat.reduceAdd, Nat.reduceSub, Nat.reduceEqDiff, Nat.reduceLT, Nat.reduceLeDiff, Int.reduceLT, Int.reduceLE, Int.reduceNeg, Int.reduceMul, Int.reduceAdd, Int.reduceSub, Int.reduceToNat, Int.reducePow, Int.reduceEq, ok, bok, deref, mkL, lstW, tupW, dats, Option.map_some, appendW, insertW, setL, isL, listW, tupleW, lenW, absW, intC, maxW, minW, idxW, addW, subW_e, modW_e, divW_e, powW_e, mulW, intW, lt_e, gt_e, le_e, ge_e, ltW, allW_e, anyW_e, sumW_e, lW, setW, lstAt, cutW, backW, isW, isiW, iLT_none, iLT_bool, iLT_int, iLT_str, iLT_list, iLT_tup, iL_none, iL_bool, iL_int, iL_str, iL_list, iL_tup, iT_none, iT_bool, iT_int, iT_str, iT_list, iT_tup, iS_none, iS_bool, iS_int, iS_str, iS_list, iS_tup, iI_none, iI_bool, iI_int, iI_str, iI_list, iI_tup, iB_none, iB_bool, iB_int, iB_str, iB_list, iB_tup, Bool.false_eq_true, reduceCtorEq, Bool.not_true, Bool.not_false, decide_true, decide_false, List.zip_cons_cons, List.zip_nil_left, List.foldl_cons, List.foldl_nil, and_self, and_true, true_and, Bool.and_true, Bool.true_and, Bool.or_true, Bool.true_or, *])
end DL
set_option maxRecDepth 100000
set_option maxHeartbeats 400000
namespace DL
open PySem L2
variable [HW]
local macro_rules | `(tactic| walk_at "dl") => `(tactic| simp (config := { dsimp := false }) only [↓fnM_e, ↓sSeq_e, seqK_nx, seqK_rt, seqK_bk, seqK_ct, retK_rt, retK_nx, ↓sFrz_e, frK_some, ↓sAsg, ↓sRet, ↓sRetN, ↓sIf, ↓sExpr, ↓sSkip, ↓sNever, ↓sPar, ↓sFor, ↓sSub, ↓fVar, ↓fC, ↓fNil, ↓fCons, ↓fA, ↓f1, ↓f2, ↓fB, ↓fIf, ↓fNeg, ↓fNot, ↓fAnd, ↓fOr, ↓bNot, ↓bAnd, ↓bOr, ↓bYes, ↓obnd_x, ob_some, ↓sbnd_x, sb_some, ↓ite_x, iteK_t, iteK_f, gN, gT, gC, gE, ↓rng1I, ↓rng2I, ↓seqI, ↓enumA, ↓zipI, ↓strI, ↓fLc, ↓fDc, ↓fM, ↓fSl, ↓oNone, ↓oSome, ↓fRev, wipeE, ↓kwM, permM, permL, List.foldr, List.length_cons, List.length_nil, List.map_cons, List.map_nil, List.cons_append, List.nil_append, List.replicate, List.replicate_succ, List.replicate_zero, List.getElem?_cons_zero, List.getElem?_cons_succ, List.set_cons_zero, List.set_cons_succ, if_true, if_false, reduceIte, Nat.reduceAdd, Nat.reduceSub, Nat.reduceEqDiff, Nat.reduceLT, Nat.reduceLeDiff, Int.reduceLT, Int.reduceLE, Int.reduceNeg, Int.reduceMul, Int.reduceAdd, Int.reduceSub, Int.reduceToNat, Int.reducePow, Int.reduceEq, ok, bok, deref, mkL, lstW, tupW, dats, Option.map_some, appendW, insertW, setL, isL, listW, tupleW, lenW, absW, intC, maxW, minW, idxW, addW, subW_e, modW_e, divW_e, powW_e, mulW, intW, lt_e, gt_e, le_e, ge_e, ltW, allW_e, anyW_e, sumW_e, lW, setW, lstAt, cutW, backW, isW, isiW, iLT_none, iLT_bool, iLT_int, iLT_str, iLT_list, iLT_tup, iL_none, iL_bool, iL_int, iL_str, iL_list, iL_tup, iT_none, iT_bool, iT_int, iT_str, iT_list, iT_tup, iS_none, iS_bool, iS_int, iS_str, iS_list, iS_tup, iI_none, iI_bool, iI_int, iI_str, iI_list, iI_tup, iB_none, iB_bool, iB_int, iB_str, iB_list, iB_tup, Bool.false_eq_true, reduceCtorEq, Bool.not_true, Bool.not_false, decide_true, decide_false, List.zip_cons_cons, List.zip_nil_left, List.foldl_cons, List.foldl_nil, and_self, and_true, true_and, Bool.and_true, Bool.true_and, Bool.or_true, Bool.true_or, *])
end DL
set_option maxRecDepth 100000
set_option maxHeartbeats 400000
namespace DL
open PySem L2
variable [HW]
structure OnlyP (b : Nat) (h g : Hh) : Prop where
  len : h.length ≤ g.length
  off : ∀ i : Nat, i < h.length → i ≠ b → g[i]? = h[i]?
theorem Only.p {b : Nat} {h g : Hh} (o : Only b h g) : OnlyP b h g := ⟨Nat.le_of_eq o.len.symm, fun i _ n => o.off i n⟩
theorem OnlyP.only {b : Nat} {h g g' : Hh} (o : OnlyP b h g) (o' : Only b g g') : OnlyP b h g' := ⟨by rw [o'.len]; exact o.len, fun i hi n => (o'.off i n).trans (o.off i hi n)⟩
theorem OnlyP.app {b : Nat} {h g l : Hh} (o : OnlyP b h g) : OnlyP b h (g ++ l) := ⟨by rw [List.length_append]; have := o.len; omega, fun i hi n => by
  rw [List.getElem?_append_left (by have := o.len; omega)]; exact o.off i hi n⟩
theorem Folk.mono {n m : Nat} {rs : List Str} (h : Folk n rs) (k : n ≤ m) : Folk m rs := ⟨h.nd, h.pos, Nat.le_trans h.le k, h.nam⟩
end DL
namespace DL
open PySem L2
variable [HW]
end DL
set_option maxRecDepth 100000
set_option maxHeartbeats 400000
namespace DL
open PySem L2
variable [HW]
local macro_rules | `(tactic| walk_at "dl") => `(tactic| simp (config := { dsimp := false }) only [↓fnM_e, ↓sSeq_e, seqK_nx, seqK_rt, seqK_bk, seqK_ct, retK_rt, retK_nx, ↓sFrz_e, frK_some, ↓sAsg, ↓sRet, ↓sRetN, ↓sIf, ↓sExpr, ↓sSkip, ↓sNever, ↓sPar, ↓sFor, ↓sSub, ↓fVar, ↓fC, ↓fNil, ↓fCons, ↓fA, ↓f1, ↓f2, ↓fB, ↓fIf, ↓fNeg, ↓fNot, ↓fAnd, ↓fOr, ↓bNot, ↓bAnd, ↓bOr, ↓bYes, ↓obnd_x, ob_some, ↓sbnd_x, sb_some, ↓ite_x, iteK_t, iteK_f, gN, gT, gC, gE, ↓rng1I, ↓rng2I, ↓seqI, ↓enumA, ↓zipI, ↓strI, ↓fLc, ↓fDc, ↓fM, ↓fSl, ↓oNone, ↓oSome, ↓fRev, wipeE, ↓kwM, permM, permL, List.foldr, List.length_cons, List.length_nil, List.map_cons, List.map_nil, List.cons_append, List.nil_append, List.replicate, List.replicate_succ, List.replicate_zero, List.getElem?_cons_zero, List.getElem?_cons_succ, List.set_cons_zero, List.set_cons_succ, if_true, if_false, reduceIte, Nat.reduceAdd, Nat.reduceSub, Nat.reduceEqDiff, Nat.reduceLT, Nat.reduceLeDiff, Int.reduceLT, Int.reduceLE, Int.reduceNeg, Int.reduceMul, Int.reduceAdd, Int.reduceSub, Int.reduceToNat, Int.reducePow, Int.reduceEq, ok, bok, deref, mkL, lstW, tupW, dats, Option.map_some, appendW, insertW, setL, isL, listW, tupleW, lenW, absW, intC, maxW, minW, idxW, addW, subW_e, modW_e, divW_e, powW_e, mulW, intW, lt_e, gt_e, le_e, ge_e, ltW, allW_e, anyW_e, sumW_e, lW, setW, lstAt, cutW, backW, isW, isiW, iLT_none, iLT_bool, iLT_int, iLT_str, iLT_list, iLT_tup, iL_none, iL_bool, iL_int, iL_str, iL_list, iL_tup, iT_none, iT_bool, iT_int, iT_str, iT_list, iT_tup, iS_none, iS_bool, iS_int, iS_str, iS_list, iS_tup, iI_none, iI_bool, iI_int, iI_str, iI_list, iI_tup, iB_none, iB_bool, iB_int, iB_str, iB_list, iB_tup, Bool.false_eq_true, reduceCtorEq, Bool.not_true, Bool.not_false, decide_true, decide_false, List.zip_cons_cons, List.zip_nil_left, List.foldl_cons, List.foldl_nil, and_self, and_true, true_and, Bool.and_true, Bool.true_and, Bool.or_true, Bool.true_or, *])
end DL
set_option maxRecDepth 100000
set_option maxHeartbeats 400000
namespace DL
open PySem L2
variable [HW]
def told (r : List Str) (ps : List (Str × Str)) (t : Str) : List Str := r.filter fun s => decide (goal ps s = t)
theorem goal_of : ∀ {ps : List (Str × Str)}, (ps.map (·.1)).Nodup → ∀ p ∈ ps, goal ps p.1 = p.2
  | [], _, p, h => by cases h
  | (a, b) :: ps, nd, p, h => by
    rw [List.map_cons, List.nodup_cons] at nd
    unfold goal
    rw [List.lookup_cons]
    rcases List.mem_cons.mp h with rfl | h
    · simp
    · have ne : p.1 ≠ a := fun z => nd.1 (List.mem_map.mpr ⟨p, h, z⟩)
      rw [show (p.1 == a) = false by simpa using ne]
      exact goal_of nd.2 p h
end DL
namespace DL
open PySem L2
variable [HW]
noncomputable def m__law_folded : FM := fnM false 2 5 (sSeq (sAsg (fA (listW true) (fCons (fSl false (fVar 0) (oNone) (oSome (fVar 1))) (fNil))) (gN 2))
    (sSeq (sFor (enumA (fCons (fSl false (fVar 0) (oSome (fVar 1)) (oSome (fC (.int 63)))) (fNil))) (gT 2 (gC (gN 3) (gC (gN 4) (gE))))
    (sSub (f2 (addW false) (f2 idxW (fVar 2) (f2 modW (fVar 3) (fVar 1))) (f2 (mulW false) (fVar 4) (f2 (addW false) (fVar 3) (fC (.int 2))))) (fVar 2) (f2 modW (fVar 3) (fVar 1))))
    (sFrz 2 (sRet (fIf (fB (f2 (eqW true) (fVar 2) (fA (lstW false) (fNil)))) (fVar 2) (fA (lstW false) (fCons (fC (.int 0)) (fNil))))))))
noncomputable def m__law_pick : FM := fnM false 2 2 (sRet (f2 idxW (fVar 1) (fA (m__law_take) (fCons (fVar 0) (fCons (fA lenW (fCons (fVar 1) (fNil))) (fNil))))))
end DL
set_option maxRecDepth 100000
set_option maxHeartbeats 400000
namespace DL
open PySem L2
variable [HW]
local macro_rules | `(tactic| walk_at "dl") => `(tactic| simp (config := { dsimp := false }) only [↓fnM_e, ↓sSeq_e, seqK_nx, seqK_rt, seqK_bk, seqK_ct, retK_rt, retK_nx, ↓sFrz_e, frK_some, ↓sAsg, ↓sRet, ↓sRetN, ↓sIf, ↓sExpr, ↓sSkip, ↓sNever, ↓sPar, ↓sFor, ↓sSub, ↓fVar, ↓fC, ↓fNil, ↓fCons, ↓fA, ↓f1, ↓f2, ↓fB, ↓fIf, ↓fNeg, ↓fNot, ↓fAnd, ↓fOr, ↓bNot, ↓bAnd, ↓bOr, ↓bYes, ↓obnd_x, ob_some, ↓sbnd_x, sb_some, ↓ite_x, iteK_t, iteK_f, gN, gT, gC, gE, ↓rng1I, ↓rng2I, ↓seqI, ↓enumA, ↓zipI, ↓strI, ↓fLc, ↓fDc, ↓fM, ↓fSl, ↓oNone, ↓oSome, ↓fRev, wipeE, ↓kwM, permM, permL, List.foldr, List.length_cons, List.length_nil, List.map_cons, List.map_nil, List.cons_append, List.nil_append, List.replicate, List.replicate_succ, List.replicate_zero, List.getElem?_cons_zero, List.getElem?_cons_succ, List.set_cons_zero, List.set_cons_succ, if_true, if_false, reduceIte, Nat.reduceAdd, Nat.reduceSub, Nat.reduceEqDiff, Nat.reduceLT, Nat.reduceLeDiff, Int.reduceLT, Int.reduceLE, Int.reduceNeg, Int.reduceMul, Int.reduceAdd, Int.reduceSub, Int.reduceToNat, Int.reducePow, Int.reduceEq, ok, bok, deref, mkL, lstW, tupW, dats, Option.map_some, appendW, insertW, setL, isL, listW, tupleW, lenW, absW, intC, maxW, minW, idxW, addW, subW_e, modW_e, divW_e, powW_e, mulW, intW, lt_e, gt_e, le_e, ge_e, ltW, allW_e, anyW_e, sumW_e, lW, setW, lstAt, cutW, backW, isW, isiW, iLT_none, iLT_bool, iLT_int, iLT_str, iLT_list, iLT_tup, iL_none, iL_bool, iL_int, iL_str, iL_list, iL_tup, iT_none, iT_bool, iT_int, iT_str, iT_list, iT_tup, iS_none, iS_bool, iS_int, iS_str, iS_list, iS_tup, iI_none, iI_bool, iI_int, iI_str, iI_list, iI_tup, iB_none, iB_bool, iB_int, iB_str, iB_list, iB_tup, Bool.false_eq_true, reduceCtorEq, Bool.not_true, Bool.not_false, decide_true, decide_false, List.zip_cons_cons, List.zip_nil_left, List.foldl_cons, List.foldl_nil, and_self, and_true, true_and, Bool.and_true, Bool.true_and, Bool.or_true, Bool.true_or, *])
theorem pick_eq : m__law_pick = m__law_of := rfl
theorem pick_ok {x : D} {ds : List D} {h : Hh} {b c : Nat} (hx : IsSeq x ds) (hb : BoxAt h b c) (hc : c < 1000000000) (h0 : 0 < ds.length) (h1 : ds.length ≤ 1000) :
    ∃ d h', m__law_pick [.ref b, .dat x] h = some (.dat d, h') ∧ d ∈ ds ∧ BoxAt h' b (c + 1) ∧ Only b h h' := by
  rw [pick_eq]
  exact of_ok hx hb hc h0 h1
abbrev ends : Str := "abcdefghijklmnopqrstuvwx"
end DL
set_option maxRecDepth 100000
set_option maxHeartbeats 400000
namespace DL
open PySem L2
variable [HW]
local macro_rules | `(tactic| walk_at "dl") => `(tactic| simp (config := { dsimp := false }) only [↓fnM_e, ↓sSeq_e, seqK_nx, seqK_rt, seqK_bk, seqK_ct, retK_rt, retK_nx, ↓sFrz_e, frK_some, ↓sAsg, ↓sRet, ↓sRetN, ↓sIf, ↓sExpr, ↓sSkip, ↓sNever, ↓sPar, ↓sFor, ↓sSub, ↓fVar, ↓fC, ↓fNil, ↓fCons, ↓fA, ↓f1, ↓f2, ↓fB, ↓fIf, ↓fNeg, ↓fNot, ↓fAnd, ↓fOr, ↓bNot, ↓bAnd, ↓bOr, ↓bYes, ↓obnd_x, ob_some, ↓sbnd_x, sb_some, ↓ite_x, iteK_t, iteK_f, gN, gT, gC, gE, ↓rng1I, ↓rng2I, ↓seqI, ↓enumA, ↓zipI, ↓strI, ↓fLc, ↓fDc, ↓fM, ↓fSl, ↓oNone, ↓oSome, ↓fRev, wipeE, ↓kwM, permM, permL, List.foldr, List.length_cons, List.length_nil, List.map_cons, List.map_nil, List.cons_append, List.nil_append, List.replicate, List.replicate_succ, List.replicate_zero, List.getElem?_cons_zero, List.getElem?_cons_succ, List.set_cons_zero, List.set_cons_succ, if_true, if_false, reduceIte, Nat.reduceAdd, Nat.reduceSub, Nat.reduceEqDiff, Nat.reduceLT, Nat.reduceLeDiff, Int.reduceLT, Int.reduceLE, Int.reduceNeg, Int.reduceMul, Int.reduceAdd, Int.reduceSub, Int.reduceToNat, Int.reducePow, Int.reduceEq, ok, bok, deref, mkL, lstW, tupW, dats, Option.map_some, appendW, insertW, setL, isL, listW, tupleW, lenW, absW, intC, maxW, minW, idxW, addW, subW_e, modW_e, divW_e, powW_e, mulW, intW, lt_e, gt_e, le_e, ge_e, ltW, allW_e, anyW_e, sumW_e, lW, setW, lstAt, cutW, backW, isW, isiW, iLT_none, iLT_bool, iLT_int, iLT_str, iLT_list, iLT_tup, iL_none, iL_bool, iL_int, iL_str, iL_list, iL_tup, iT_none, iT_bool, iT_int, iT_str, iT_list, iT_tup, iS_none, iS_bool, iS_int, iS_str, iS_list, iS_tup, iI_none, iI_bool, iI_int, iI_str, iI_list, iI_tup, iB_none, iB_bool, iB_int, iB_str, iB_list, iB_tup, Bool.false_eq_true, reduceCtorEq, Bool.not_true, Bool.not_false, decide_true, decide_false, List.zip_cons_cons, List.zip_nil_left, List.foldl_cons, List.foldl_nil, and_self, and_true, true_and, Bool.and_true, Bool.true_and, Bool.or_true, Bool.true_or, *])
end DL
set_option maxRecDepth 100000
set_option maxHeartbeats 400000
namespace DL
open PySem L2
variable [HW]
local macro_rules | `(tactic| walk_at "dl") => `(tactic| simp (config := { dsimp := false }) only [↓fnM_e, ↓sSeq_e, seqK_nx, seqK_rt, seqK_bk, seqK_ct, retK_rt, retK_nx, ↓sFrz_e, frK_some, ↓sAsg, ↓sRet, ↓sRetN, ↓sIf, ↓sExpr, ↓sSkip, ↓sNever, ↓sPar, ↓sFor, ↓sSub, ↓fVar, ↓fC, ↓fNil, ↓fCons, ↓fA, ↓f1, ↓f2, ↓fB, ↓fIf, ↓fNeg, ↓fNot, ↓fAnd, ↓fOr, ↓bNot, ↓bAnd, ↓bOr, ↓bYes, ↓obnd_x, ob_some, ↓sbnd_x, sb_some, ↓ite_x, iteK_t, iteK_f, gN, gT, gC, gE, ↓rng1I, ↓rng2I, ↓seqI, ↓enumA, ↓zipI, ↓strI, ↓fLc, ↓fDc, ↓fM, ↓fSl, ↓oNone, ↓oSome, ↓fRev, wipeE, ↓kwM, permM, permL, List.foldr, List.length_cons, List.length_nil, List.map_cons, List.map_nil, List.cons_append, List.nil_append, List.replicate, List.replicate_succ, List.replicate_zero, List.getElem?_cons_zero, List.getElem?_cons_succ, List.set_cons_zero, List.set_cons_succ, if_true, if_false, reduceIte, Nat.reduceAdd, Nat.reduceSub, Nat.reduceEqDiff, Nat.reduceLT, Nat.reduceLeDiff, Int.reduceLT, Int.reduceLE, Int.reduceNeg, Int.reduceMul, Int.reduceAdd, Int.reduceSub, Int.reduceToNat, Int.reducePow, Int.reduceEq, ok, bok, deref, mkL, lstW, tupW, dats, Option.map_some, appendW, insertW, setL, isL, listW, tupleW, lenW, absW, intC, maxW, minW, idxW, addW, subW_e, modW_e, divW_e, powW_e, mulW, intW, lt_e, gt_e, le_e, ge_e, ltW, allW_e, anyW_e, sumW_e, lW, setW, lstAt, cutW, backW, isW, isiW, iLT_none, iLT_bool, iLT_int, iLT_str, iLT_list, iLT_tup, iL_none, iL_bool, iL_int, iL_str, iL_list, iL_tup, iT_none, iT_bool, iT_int, iT_str, iT_list, iT_tup, iS_none, iS_bool, iS_int, iS_str, iS_list, iS_tup, iI_none, iI_bool, iI_int, iI_str, iI_list, iI_tup, iB_none, iB_bool, iB_int, iB_str, iB_list, iB_tup, Bool.false_eq_true, reduceCtorEq, Bool.not_true, Bool.not_false, decide_true, decide_false, List.zip_cons_cons, List.zip_nil_left, List.foldl_cons, List.foldl_nil, and_self, and_true, true_and, Bool.and_true, Bool.true_and, Bool.or_true, Bool.true_or, *])
end DL
set_option maxRecDepth 100000
set_option maxHeartbeats 400000
namespace DL
open PySem L2
variable [HW]
local macro_rules | `(tactic| walk_at "dl") => `(tactic| simp (config := { dsimp := false }) only [↓fnM_e, ↓sSeq_e, seqK_nx, seqK_rt, seqK_bk, seqK_ct, retK_rt, retK_nx, ↓sFrz_e, frK_some, ↓sAsg, ↓sRet, ↓sRetN, ↓sIf, ↓sExpr, ↓sSkip, ↓sNever, ↓sPar, ↓sFor, ↓sSub, ↓fVar, ↓fC, ↓fNil, ↓fCons, ↓fA, ↓f1, ↓f2, ↓fB, ↓fIf, ↓fNeg, ↓fNot, ↓fAnd, ↓fOr, ↓bNot, ↓bAnd, ↓bOr, ↓bYes, ↓obnd_x, ob_some, ↓sbnd_x, sb_some, ↓ite_x, iteK_t, iteK_f, gN, gT, gC, gE, ↓rng1I, ↓rng2I, ↓seqI, ↓enumA, ↓zipI, ↓strI, ↓fLc, ↓fDc, ↓fM, ↓fSl, ↓oNone, ↓oSome, ↓fRev, wipeE, ↓kwM, permM, permL, List.foldr, List.length_cons, List.length_nil, List.map_cons, List.map_nil, List.cons_append, List.nil_append, List.replicate, List.replicate_succ, List.replicate_zero, List.getElem?_cons_zero, List.getElem?_cons_succ, List.set_cons_zero, List.set_cons_succ, if_true, if_false, reduceIte, Nat.reduceAdd, Nat.reduceSub, Nat.reduceEqDiff, Nat.reduceLT, Nat.reduceLeDiff, Int.reduceLT, Int.reduceLE, Int.reduceNeg, Int.reduceMul, Int.reduceAdd, Int.reduceSub, Int.reduceToNat, Int.reducePow, Int.reduceEq, ok, bok, deref, mkL, lstW, tupW, dats, Option.map_some, appendW, insertW, setL, isL, listW, tupleW, lenW, absW, intC, maxW, minW, idxW, addW, subW_e, modW_e, divW_e, powW_e, mulW, intW, lt_e, gt_e, le_e, ge_e, ltW, allW_e, anyW_e, sumW_e, lW, setW, lstAt, cutW, backW, isW, isiW, iLT_none, iLT_bool, iLT_int, iLT_str, iLT_list, iLT_tup, iL_none, iL_bool, iL_int, iL_str, iL_list, iL_tup, iT_none, iT_bool, iT_int, iT_str, iT_list, iT_tup, iS_none, iS_bool, iS_int, iS_str, iS_list, iS_tup, iI_none, iI_bool, iI_int, iI_str, iI_list, iI_tup, iB_none, iB_bool, iB_int, iB_str, iB_list, iB_tup, Bool.false_eq_true, reduceCtorEq, Bool.not_true, Bool.not_false, decide_true, decide_false, List.zip_cons_cons, List.zip_nil_left, List.foldl_cons, List.foldl_nil, and_self, and_true, true_and, Bool.and_true, Bool.true_and, Bool.or_true, Bool.true_or, *])
end DL
set_option maxRecDepth 100000
set_option maxHeartbeats 400000
namespace DL
open PySem L2
variable [HW]
local macro_rules | `(tactic| walk_at "dl") => `(tactic| simp (config := { dsimp := false }) only [↓fnM_e, ↓sSeq_e, seqK_nx, seqK_rt, seqK_bk, seqK_ct, retK_rt, retK_nx, ↓sFrz_e, frK_some, ↓sAsg, ↓sRet, ↓sRetN, ↓sIf, ↓sExpr, ↓sSkip, ↓sNever, ↓sPar, ↓sFor, ↓sSub, ↓fVar, ↓fC, ↓fNil, ↓fCons, ↓fA, ↓f1, ↓f2, ↓fB, ↓fIf, ↓fNeg, ↓fNot, ↓fAnd, ↓fOr, ↓bNot, ↓bAnd, ↓bOr, ↓bYes, ↓obnd_x, ob_some, ↓sbnd_x, sb_some, ↓ite_x, iteK_t, iteK_f, gN, gT, gC, gE, ↓rng1I, ↓rng2I, ↓seqI, ↓enumA, ↓zipI, ↓strI, ↓fLc, ↓fDc, ↓fM, ↓fSl, ↓oNone, ↓oSome, ↓fRev, wipeE, ↓kwM, permM, permL, List.foldr, List.length_cons, List.length_nil, List.map_cons, List.map_nil, List.cons_append, List.nil_append, List.replicate, List.replicate_succ, List.replicate_zero, List.getElem?_cons_zero, List.getElem?_cons_succ, List.set_cons_zero, List.set_cons_succ, if_true, if_false, reduceIte, Nat.reduceAdd, Nat.reduceSub, Nat.reduceEqDiff, Nat.reduceLT, Nat.reduceLeDiff, Int.reduceLT, Int.reduceLE, Int.reduceNeg, Int.reduceMul, Int.reduceAdd, Int.reduceSub, Int.reduceToNat, Int.reducePow, Int.reduceEq, ok, bok, deref, mkL, lstW, tupW, dats, Option.map_some, appendW, insertW, setL, isL, listW, tupleW, lenW, absW, intC, maxW, minW, idxW, addW, subW_e, modW_e, divW_e, powW_e, mulW, intW, lt_e, gt_e, le_e, ge_e, ltW, allW_e, anyW_e, sumW_e, lW, setW, lstAt, cutW, backW, isW, isiW, iLT_none, iLT_bool, iLT_int, iLT_str, iLT_list, iLT_tup, iL_none, iL_bool, iL_int, iL_str, iL_list, iL_tup, iT_none, iT_bool, iT_int, iT_str, iT_list, iT_tup, iS_none, iS_bool, iS_int, iS_str, iS_list, iS_tup, iI_none, iI_bool, iI_int, iI_str, iI_list, iI_tup, iB_none, iB_bool, iB_int, iB_str, iB_list, iB_tup, Bool.false_eq_true, reduceCtorEq, Bool.not_true, Bool.not_false, decide_true, decide_false, List.zip_cons_cons, List.zip_nil_left, List.foldl_cons, List.foldl_nil, and_self, and_true, true_and, Bool.and_true, Bool.true_and, Bool.or_true, Bool.true_or, *])
theorem perm_nodup : ∀ {l m : List Str}, l.Nodup → m.Nodup → (∀ k, k ∈ l ↔ k ∈ m) → l.Perm m
  | [], m, _, _, h => by
    have : m = [] := List.eq_nil_iff_forall_not_mem.mpr fun k hk => by have := (h k).mpr hk; cases this
    rw [this]
  | a :: l, m, n1, n2, h => by
    have ha : a ∈ m := (h a).mp List.mem_cons_self
    have pe := List.perm_cons_erase ha
    have n2' : (a :: m.erase a).Nodup := pe.nodup_iff.mp n2
    obtain ⟨a1, a2⟩ := List.nodup_cons.mp n1
    obtain ⟨b1, b2⟩ := List.nodup_cons.mp n2'
    refine (List.Perm.cons a (perm_nodup a2 b2 fun k => ?_)).trans pe.symm
    constructor
    · intro hk
      have ne : k ≠ a := fun z => by subst z; exact a1 hk
      exact (List.mem_erase_of_ne ne).mpr ((h k).mp (List.mem_cons_of_mem _ hk))
    · intro hk
      have ne : k ≠ a := fun z => by subst z; exact b1 hk
      rcases List.mem_cons.mp ((h k).mpr ((List.mem_erase_of_ne ne).mp hk)) with z | z
      · exact absurd z ne
      · exact z
end DL
set_option maxRecDepth 100000
set_option maxHeartbeats 400000
namespace DL
open PySem L2
variable [HW]
local macro_rules | `(tactic| walk_at "dl") => `(tactic| simp (config := { dsimp := false }) only [↓fnM_e, ↓sSeq_e, seqK_nx, seqK_rt, seqK_bk, seqK_ct, retK_rt, retK_nx, ↓sFrz_e, frK_some, ↓sAsg, ↓sRet, ↓sRetN, ↓sIf, ↓sExpr, ↓sSkip, ↓sNever, ↓sPar, ↓sFor, ↓sSub, ↓fVar, ↓fC, ↓fNil, ↓fCons, ↓fA, ↓f1, ↓f2, ↓fB, ↓fIf, ↓fNeg, ↓fNot, ↓fAnd, ↓fOr, ↓bNot, ↓bAnd, ↓bOr, ↓bYes, ↓obnd_x, ob_some, ↓sbnd_x, sb_some, ↓ite_x, iteK_t, iteK_f, gN, gT, gC, gE, ↓rng1I, ↓rng2I, ↓seqI, ↓enumA, ↓zipI, ↓strI, ↓fLc, ↓fDc, ↓fM, ↓fSl, ↓oNone, ↓oSome, ↓fRev, wipeE, ↓kwM, permM, permL, List.foldr, List.length_cons, List.length_nil, List.map_cons, List.map_nil, List.cons_append, List.nil_append, List.replicate, List.replicate_succ, List.replicate_zero, List.getElem?_cons_zero, List.getElem?_cons_succ, List.set_cons_zero, List.set_cons_succ, if_true, if_false, reduceIte, Nat.reduceAdd, Nat.reduceSub, Nat.reduceEqDiff, Nat.reduceLT, Nat.reduceLeDiff, Int.reduceLT, Int.reduceLE, Int.reduceNeg, Int.reduceMul, Int.reduceAdd, Int.reduceSub, Int.reduceToNat, Int.reducePow, Int.reduceEq, ok, bok, deref, mkL, lstW, tupW, dats, Option.map_some, appendW, insertW, setL, isL, listW, tupleW, lenW, absW, intC, maxW, minW, idxW, addW, subW_e, modW_e, divW_e, powW_e, mulW, intW, lt_e, gt_e, le_e, ge_e, ltW, allW_e, anyW_e, sumW_e, lW, setW, lstAt, cutW, backW, isW, isiW, iLT_none, iLT_bool, iLT_int, iLT_str, iLT_list, iLT_tup, iL_none, iL_bool, iL_int, iL_str, iL_list, iL_tup, iT_none, iT_bool, iT_int, iT_str, iT_list, iT_tup, iS_none, iS_bool, iS_int, iS_str, iS_list, iS_tup, iI_none, iI_bool, iI_int, iI_str, iI_list, iI_tup, iB_none, iB_bool, iB_int, iB_str, iB_list, iB_tup, Bool.false_eq_true, reduceCtorEq, Bool.not_true, Bool.not_false, decide_true, decide_false, List.zip_cons_cons, List.zip_nil_left, List.foldl_cons, List.foldl_nil, and_self, and_true, true_and, Bool.and_true, Bool.true_and, Bool.or_true, Bool.true_or, *])
end DL
set_option maxRecDepth 100000
set_option maxHeartbeats 400000
namespace DL
open PySem L2
variable [HW]
local macro_rules | `(tactic| walk_at "dl") => `(tactic| simp (config := { dsimp := false }) only [↓fnM_e, ↓sSeq_e, seqK_nx, seqK_rt, seqK_bk, seqK_ct, retK_rt, retK_nx, ↓sFrz_e, frK_some, ↓sAsg, ↓sRet, ↓sRetN, ↓sIf, ↓sExpr, ↓sSkip, ↓sNever, ↓sPar, ↓sFor, ↓sSub, ↓fVar, ↓fC, ↓fNil, ↓fCons, ↓fA, ↓f1, ↓f2, ↓fB, ↓fIf, ↓fNeg, ↓fNot, ↓fAnd, ↓fOr, ↓bNot, ↓bAnd, ↓bOr, ↓bYes, ↓obnd_x, ob_some, ↓sbnd_x, sb_some, ↓ite_x, iteK_t, iteK_f, gN, gT, gC, gE, ↓rng1I, ↓rng2I, ↓seqI, ↓enumA, ↓zipI, ↓strI, ↓fLc, ↓fDc, ↓fM, ↓fSl, ↓oNone, ↓oSome, ↓fRev, wipeE, ↓kwM, permM, permL, List.foldr, List.length_cons, List.length_nil, List.map_cons, List.map_nil, List.cons_append, List.nil_append, List.replicate, List.replicate_succ, List.replicate_zero, List.getElem?_cons_zero, List.getElem?_cons_succ, List.set_cons_zero, List.set_cons_succ, if_true, if_false, reduceIte, Nat.reduceAdd, Nat.reduceSub, Nat.reduceEqDiff, Nat.reduceLT, Nat.reduceLeDiff, Int.reduceLT, Int.reduceLE, Int.reduceNeg, Int.reduceMul, Int.reduceAdd, Int.reduceSub, Int.reduceToNat, Int.reducePow, Int.reduceEq, ok, bok, deref, mkL, lstW, tupW, dats, Option.map_some, appendW, insertW, setL, isL, listW, tupleW, lenW, absW, intC, maxW, minW, idxW, addW, subW_e, modW_e, divW_e, powW_e, mulW, intW, lt_e, gt_e, le_e, ge_e, ltW, allW_e, anyW_e, sumW_e, lW, setW, lstAt, cutW, backW, isW, isiW, iLT_none, iLT_bool, iLT_int, iLT_str, iLT_list, iLT_tup, iL_none, iL_bool, iL_int, iL_str, iL_list, iL_tup, iT_none, iT_bool, iT_int, iT_str, iT_list, iT_tup, iS_none, iS_bool, iS_int, iS_str, iS_list, iS_tup, iI_none, iI_bool, iI_int, iI_str, iI_list, iI_tup, iB_none, iB_bool, iB_int, iB_str, iB_list, iB_tup, Bool.false_eq_true, reduceCtorEq, Bool.not_true, Bool.not_false, decide_true, decide_false, List.zip_cons_cons, List.zip_nil_left, List.foldl_cons, List.foldl_nil, and_self, and_true, true_and, Bool.and_true, Bool.true_and, Bool.or_true, Bool.true_or, *])
end DL
set_option maxRecDepth 100000
set_option maxHeartbeats 400000
namespace DL
open PySem L2
variable [HW]
local macro_rules | `(tactic| walk_at "dl") => `(tactic| simp (config := { dsimp := false }) only [↓fnM_e, ↓sSeq_e, seqK_nx, seqK_rt, seqK_bk, seqK_ct, retK_rt, retK_nx, ↓sFrz_e, frK_some, ↓sAsg, ↓sRet, ↓sRetN, ↓sIf, ↓sExpr, ↓sSkip, ↓sNever, ↓sPar, ↓sFor, ↓sSub, ↓fVar, ↓fC, ↓fNil, ↓fCons, ↓fA, ↓f1, ↓f2, ↓fB, ↓fIf, ↓fNeg, ↓fNot, ↓fAnd, ↓fOr, ↓bNot, ↓bAnd, ↓bOr, ↓bYes, ↓obnd_x, ob_some, ↓sbnd_x, sb_some, ↓ite_x, iteK_t, iteK_f, gN, gT, gC, gE, ↓rng1I, ↓rng2I, ↓seqI, ↓enumA, ↓zipI, ↓strI, ↓fLc, ↓fDc, ↓fM, ↓fSl, ↓oNone, ↓oSome, ↓fRev, wipeE, ↓kwM, permM, permL, List.foldr, List.length_cons, List.length_nil, List.map_cons, List.map_nil, List.cons_append, List.nil_append, List.replicate, List.replicate_succ, List.replicate_zero, List.getElem?_cons_zero, List.getElem?_cons_succ, List.set_cons_zero, List.set_cons_succ, if_true, if_false, reduceIte, Nat.reduceAdd, Nat.reduceSub, Nat.reduceEqDiff, Nat.reduceLT, Nat.reduceLeDiff, Int.reduceLT, Int.reduceLE, Int.reduceNeg, Int.reduceMul, Int.reduceAdd, Int.reduceSub, Int.reduceToNat, Int.reducePow, Int.reduceEq, ok, bok, deref, mkL, lstW, tupW, dats, Option.map_some, appendW, insertW, setL, isL, listW, tupleW, lenW, absW, intC, maxW, minW, idxW, addW, subW_e, modW_e, divW_e, powW_e, mulW, intW, lt_e, gt_e, le_e, ge_e, ltW, allW_e, anyW_e, sumW_e, lW, setW, lstAt, cutW, backW, isW, isiW, iLT_none, iLT_bool, iLT_int, iLT_str, iLT_list, iLT_tup, iL_none, iL_bool, iL_int, iL_str, iL_list, iL_tup, iT_none, iT_bool, iT_int, iT_str, iT_list, iT_tup, iS_none, iS_bool, iS_int, iS_str, iS_list, iS_tup, iI_none, iI_bool, iI_int, iI_str, iI_list, iI_tup, iB_none, iB_bool, iB_int, iB_str, iB_list, iB_tup, Bool.false_eq_true, reduceCtorEq, Bool.not_true, Bool.not_false, decide_true, decide_false, List.zip_cons_cons, List.zip_nil_left, List.foldl_cons, List.foldl_nil, and_self, and_true, true_and, Bool.and_true, Bool.true_and, Bool.or_true, Bool.true_or, *])
noncomputable def foldBody : SM := sSub (f2 (addW false) (f2 idxW (fVar 2) (f2 modW (fVar 3) (fVar 1))) (f2 (mulW false) (fVar 4) (f2 (addW false) (fVar 3) (fC (.int 2))))) (fVar 2) (f2 modW (fVar 3) (fVar 1))
theorem fold_run {g : Hh} {x : W} {p j : Nat} {k m v a : Int} {cs : List D} (m0 : decide (0 < m) = true) (hg : g[p]? = some (some (.lst cs))) (ha : L2.atI cs (k % m) = some (.int a)) (hj : ixN cs.length (k % m) = some j) (k0 : -18446744073709551616 < k + 2) (k1 : k + 2 < 18446744073709551616) :
    foldBody [some x, some (.dat (.int m)), some (.ref p), some (.dat (.int k)), some (.dat (.int v))] g = some (.nx [some x, some (.dat (.int m)), some (.ref p), some (.dat (.int k)), some (.dat (.int v))], g.set p (some (.lst (cs.set j (.int (a + v * (k + 2))))))) := by
  unfold foldBody
  walk_at "dl"
theorem ints_at {cs : List Int} {i : Nat} (h : i < cs.length) : L2.atI (cs.map PyData.int) (i : Int) = some (.int cs[i]) :=
  atI_nat (xs := cs.map PyData.int) (j := i) (by rw [List.getElem?_map, List.getElem?_eq_getElem h]; rfl)
theorem ixN_nat {n i : Nat} (h : i < n) : ixN n (i : Int) = some i := by
  unfold ixN
  rw [if_pos (by omega), if_pos (by omega)]
  simp
theorem enum_int {ms : List Int} {j : Nat} {d : D} (e : (enumD 0 (ms.map .int))[j]? = some d) : ∃ v : Int, j < ms.length ∧ d = .tuple [.int (j : Int), .int v] := by
  obtain ⟨s, hs, rfl⟩ := enumD_get e
  rw [List.getElem?_map] at hs
  obtain ⟨v, hv, rfl⟩ := Option.map_eq_some_iff.mp hs
  exact ⟨v, (List.getElem?_eq_some_iff.mp hv).1, by rw [Nat.zero_add]⟩
theorem shp_ints (cs : List Int) : shp (.list (cs.map .int)) = true := by
  have h1 : ∀ cs : List Int, PyData.canLayAll0 (cs.map .int) = true := fun cs => by
    induction cs with
    | nil => rfl
    | cons a t ih => rw [List.map_cons, PyData.canLayAll0, ih]; simp [PyData.canLay0]
  have h2 : ∀ cs : List Int, PyData.depthAll (cs.map .int) = 0 := fun cs => by
    induction cs with
    | nil => rfl
    | cons a t ih => rw [List.map_cons, PyData.depthAll, ih]; simp [PyData.depth]
  unfold shp
  rw [PyData.canLay0, h1, PyData.depth, h2]
  rfl
theorem eqW_ints_nil {cs : List Int} {h : Hh} : eqW true (.dat (.list (cs.map .int))) (.dat (.list [])) h = some (.dat (.bool (decide (cs ≠ []))), h) := by
  have hs := shp_ints cs
  have h0 : shp (.list []) = true := by decide +kernel
  have e : PyData.eqv (.list (cs.map .int)) (.list []) = decide (cs = []) := by
    cases cs with
    | nil => decide +kernel
    | cons a l => simp [PyData.eqv, PyData.eqvAll]
  unfold eqW
  simp only [deref, eqS, hs, h0, e, Bool.and_self, if_true]
  show bok (!decide (cs = [])) h = _
  rw [← decide_not]; rfl
theorem fold_end {ns : List Int} {h : Hh} {cs : List Int} {m : Int} {z : Bool} {A B : List Int} {v3 v4 : Option W} (i3 : ∀ n, isR n v3 = false) (i4 : ∀ n, isR n v4 = false) (eA : cutG ns none (some m) = A) (eB : cutG ns (some m) (some 63) = B)
    (e1 : forL (gT 2 (gC (gN 3) (gC (gN 4) (gE)))) foldBody (enumD 0 (B.map .int)) [some (.scr ns), some (.dat (.int m)), some (.ref h.length), none, none] (h ++ [some (.lst (A.map .int))]) = some (.nx [some (.scr ns), some (.dat (.int m)), some (.ref h.length), v3, v4], h ++ [some (.lst (cs.map .int))])) (ez : decide (cs ≠ []) = z) :
    m__law_folded [.scr ns, .dat (.int m)] h = some (.dat (.list (if z = true then cs.map .int else [.int 0])), h) := by
  have e2 := eqW_ints_nil (cs := cs) (h := h ++ [none])
  rw [ez] at e2
  have c0 : 0 ≤ sizeLine := Nat.zero_le _
  have c1 : 1 ≤ sizeLine := by decide
  have hf : frz 2 [some (.scr ns), some (.dat (.int m)), some (.ref h.length), v3, v4] (h ++ [some (.lst (cs.map .int))]) = some ([some (.scr ns), some (.dat (.int m)), some (.dat (.list (cs.map .int))), v3, v4], h ++ [none]) := by
    have g1 : (h ++ [some (MO.lst (cs.map .int))])[h.length]? = some (some (.lst (cs.map .int))) := app_get rfl
    have g2 : (h ++ [some (MO.lst (cs.map .int))]).set h.length none = h ++ [none] := app_set rfl
    unfold frz
    simp only [List.getElem?_cons_zero, List.getElem?_cons_succ, g1, g2, List.set_cons_zero, List.set_cons_succ, List.any_cons, List.any_nil, i3, i4, isR_ref, isR_dat, isR_scr, isR_none, Bool.or_false, Bool.false_or, isTab, Bool.false_eq_true, if_false, moD]
  have lv := fun d : D => show leave false h (.dat d) (h ++ [none]) = some (.dat d, h) by
    have e : (h ++ [none]).take h.length = h := app_take rfl
    rw [leave_dat (by rw [e]), e]
  unfold foldBody at e1
  unfold m__law_folded
  clear i3 i4 ez
  cases z with
  | true => walk_at "dl"
  | false => walk_at "dl"
theorem boxL_run {cs : List Int} {k cell a n : Int} {z : Bool} {h : Hh} (hn : ((cs.map PyData.int).length : Int) = n) (h1 : decide (k < n) = true) (h2 : L2.atI (cs.map PyData.int) k = some (.int cell)) (ha : (if cell < 0 then -cell else cell) = a) (hz : decide (1000000000000000000 ≤ a) = z) :
    m__law_box [.dat (.list (cs.map .int)), .dat (.int k)] h = some (.ref h.length, h ++ [some (.lst [.int (a * (if z = true then 1 else 0)), .int (cell % 2147483629 + 7919 * k + 11), .int 0])]) := by
  have c7 : 3 ≤ sizeLine := by decide
  have hna : Int.natAbs 10 < 18446744073709551616 := by decide
  have lv := leave_ref (h := h) (ds := [.int (a * (if z = true then 1 else 0)), .int (cell % 2147483629 + 7919 * k + 11), .int 0])
  unfold m__law_box
  cases z with
  | true => walk_at "dl"; exact leave_ref
  | false => walk_at "dl"; exact leave_ref
theorem boxL_new {cs : List Int} {k : Nat} {h : Hh} (hk : k < cs.length) (hk2 : k < 100) :
    ∃ d s : Int, m__law_box [.dat (.list (cs.map .int)), .dat (.int (k : Int))] h = some (.ref h.length, h ++ [some (.lst [.int d, .int s, .int 0])]) ∧ 0 ≤ d ∧ 0 ≤ s ∧ s < 1099511627776 := by
  refine ⟨_, _, boxL_run (n := (cs.length : Int)) (by rw [List.length_map]) (by simp; omega) (ints_at hk) rfl rfl, ?_, by omega, by omega⟩
  split <;> split <;> omega
end DL
namespace DL
open PySem L2
variable [HW]
end DL
set_option maxRecDepth 100000
set_option maxHeartbeats 400000
namespace DL
open PySem L2
variable [HW]
local macro_rules | `(tactic| walk_at "dl") => `(tactic| simp (config := { dsimp := false }) only [↓fnM_e, ↓sSeq_e, seqK_nx, seqK_rt, seqK_bk, seqK_ct, retK_rt, retK_nx, ↓sFrz_e, frK_some, ↓sAsg, ↓sRet, ↓sRetN, ↓sIf, ↓sExpr, ↓sSkip, ↓sNever, ↓sPar, ↓sFor, ↓sSub, ↓fVar, ↓fC, ↓fNil, ↓fCons, ↓fA, ↓f1, ↓f2, ↓fB, ↓fIf, ↓fNeg, ↓fNot, ↓fAnd, ↓fOr, ↓bNot, ↓bAnd, ↓bOr, ↓bYes, ↓obnd_x, ob_some, ↓sbnd_x, sb_some, ↓ite_x, iteK_t, iteK_f, gN, gT, gC, gE, ↓rng1I, ↓rng2I, ↓seqI, ↓enumA, ↓zipI, ↓strI, ↓fLc, ↓fDc, ↓fM, ↓fSl, ↓oNone, ↓oSome, ↓fRev, wipeE, ↓kwM, permM, permL, List.foldr, List.length_cons, List.length_nil, List.map_cons, List.map_nil, List.cons_append, List.nil_append, List.replicate, List.replicate_succ, List.replicate_zero, List.getElem?_cons_zero, List.getElem?_cons_succ, List.set_cons_zero, List.set_cons_succ, if_true, if_false, reduceIte, Nat.reduceAdd, Nat.reduceSub, Nat.reduceEqDiff, Nat.reduceLT, Nat.reduceLeDiff, Int.reduceLT, Int.reduceLE, Int.reduceNeg, Int.reduceMul, Int.reduceAdd, Int.reduceSub, Int.reduceToNat, Int.reducePow, Int.reduceEq, ok, bok, deref, mkL, lstW, tupW, dats, Option.map_some, appendW, insertW, setL, isL, listW, tupleW, lenW, absW, intC, maxW, minW, idxW, addW, subW_e, modW_e, divW_e, powW_e, mulW, intW, lt_e, gt_e, le_e, ge_e, ltW, allW_e, anyW_e, sumW_e, lW, setW, lstAt, cutW, backW, isW, isiW, iLT_none, iLT_bool, iLT_int, iLT_str, iLT_list, iLT_tup, iL_none, iL_bool, iL_int, iL_str, iL_list, iL_tup, iT_none, iT_bool, iT_int, iT_str, iT_list, iT_tup, iS_none, iS_bool, iS_int, iS_str, iS_list, iS_tup, iI_none, iI_bool, iI_int, iI_str, iI_list, iI_tup, iB_none, iB_bool, iB_int, iB_str, iB_list, iB_tup, Bool.false_eq_true, reduceCtorEq, Bool.not_true, Bool.not_false, decide_true, decide_false, List.zip_cons_cons, List.zip_nil_left, List.foldl_cons, List.foldl_nil, and_self, and_true, true_and, Bool.and_true, Bool.true_and, Bool.or_true, Bool.true_or, *])
end DL
set_option maxRecDepth 100000
set_option maxHeartbeats 400000
namespace DL
open PySem L2
variable [HW]
end DL
set_option maxRecDepth 100000
set_option maxHeartbeats 400000
namespace DL
open PySem L2
variable [HW]
end DL
set_option maxRecDepth 100000
set_option maxHeartbeats 400000
namespace DL
open PySem L2
variable [HW]
theorem hs_eq {hs ks : List Str} (n1 : hs.Nodup) (p1 : hs.Pairwise fun a b => leT a b = true) (n2 : ks.Nodup) (p2 : ks.Pairwise fun a b => leT a b = true) (h : ∀ t, t ∈ hs ↔ t ∈ ks) : hs = ks :=
  List.Perm.eq_of_pairwise (fun x y _ _ h1 h2 => leT_anti h1 h2) p1 p2 (perm_nodup n1 n2 h)
end DL
namespace DL
open PySem L2
variable [HW]
end DL
set_option maxRecDepth 100000
set_option maxHeartbeats 400000
namespace DL
open PySem L2
variable [HW]
local macro_rules | `(tactic| walk_at "dl") => `(tactic| simp (config := { dsimp := false }) only [↓fnM_e, ↓sSeq_e, seqK_nx, seqK_rt, seqK_bk, seqK_ct, retK_rt, retK_nx, ↓sFrz_e, frK_some, ↓sAsg, ↓sRet, ↓sRetN, ↓sIf, ↓sExpr, ↓sSkip, ↓sNever, ↓sPar, ↓sFor, ↓sSub, ↓fVar, ↓fC, ↓fNil, ↓fCons, ↓fA, ↓f1, ↓f2, ↓fB, ↓fIf, ↓fNeg, ↓fNot, ↓fAnd, ↓fOr, ↓bNot, ↓bAnd, ↓bOr, ↓bYes, ↓obnd_x, ob_some, ↓sbnd_x, sb_some, ↓ite_x, iteK_t, iteK_f, gN, gT, gC, gE, ↓rng1I, ↓rng2I, ↓seqI, ↓enumA, ↓zipI, ↓strI, ↓fLc, ↓fDc, ↓fM, ↓fSl, ↓oNone, ↓oSome, ↓fRev, wipeE, ↓kwM, permM, permL, List.foldr, List.length_cons, List.length_nil, List.map_cons, List.map_nil, List.cons_append, List.nil_append, List.replicate, List.replicate_succ, List.replicate_zero, List.getElem?_cons_zero, List.getElem?_cons_succ, List.set_cons_zero, List.set_cons_succ, if_true, if_false, reduceIte, Nat.reduceAdd, Nat.reduceSub, Nat.reduceEqDiff, Nat.reduceLT, Nat.reduceLeDiff, Int.reduceLT, Int.reduceLE, Int.reduceNeg, Int.reduceMul, Int.reduceAdd, Int.reduceSub, Int.reduceToNat, Int.reducePow, Int.reduceEq, ok, bok, deref, mkL, lstW, tupW, dats, Option.map_some, appendW, insertW, setL, isL, listW, tupleW, lenW, absW, intC, maxW, minW, idxW, addW, subW_e, modW_e, divW_e, powW_e, mulW, intW, lt_e, gt_e, le_e, ge_e, ltW, allW_e, anyW_e, sumW_e, lW, setW, lstAt, cutW, backW, isW, isiW, iLT_none, iLT_bool, iLT_int, iLT_str, iLT_list, iLT_tup, iL_none, iL_bool, iL_int, iL_str, iL_list, iL_tup, iT_none, iT_bool, iT_int, iT_str, iT_list, iT_tup, iS_none, iS_bool, iS_int, iS_str, iS_list, iS_tup, iI_none, iI_bool, iI_int, iI_str, iI_list, iI_tup, iB_none, iB_bool, iB_int, iB_str, iB_list, iB_tup, Bool.false_eq_true, reduceCtorEq, Bool.not_true, Bool.not_false, decide_true, decide_false, List.zip_cons_cons, List.zip_nil_left, List.foldl_cons, List.foldl_nil, and_self, and_true, true_and, Bool.and_true, Bool.true_and, Bool.or_true, Bool.true_or, *])
def insR (acc : List Str) (y : Str) : List Str := if y ∈ acc then acc else acc ++ [y]
def uR (l : List Str) : List Str := l.foldl insR []
end DL
set_option maxRecDepth 100000
set_option maxHeartbeats 400000
namespace DL
open PySem L2
variable [HW]
end DL
set_option maxRecDepth 100000
set_option maxHeartbeats 400000
namespace DL
open PySem L2
variable [HW]
local macro_rules | `(tactic| walk_at "dl") => `(tactic| simp (config := { dsimp := false }) only [↓fnM_e, ↓sSeq_e, seqK_nx, seqK_rt, seqK_bk, seqK_ct, retK_rt, retK_nx, ↓sFrz_e, frK_some, ↓sAsg, ↓sRet, ↓sRetN, ↓sIf, ↓sExpr, ↓sSkip, ↓sNever, ↓sPar, ↓sFor, ↓sSub, ↓fVar, ↓fC, ↓fNil, ↓fCons, ↓fA, ↓f1, ↓f2, ↓fB, ↓fIf, ↓fNeg, ↓fNot, ↓fAnd, ↓fOr, ↓bNot, ↓bAnd, ↓bOr, ↓bYes, ↓obnd_x, ob_some, ↓sbnd_x, sb_some, ↓ite_x, iteK_t, iteK_f, gN, gT, gC, gE, ↓rng1I, ↓rng2I, ↓seqI, ↓enumA, ↓zipI, ↓strI, ↓fLc, ↓fDc, ↓fM, ↓fSl, ↓oNone, ↓oSome, ↓fRev, wipeE, ↓kwM, permM, permL, List.foldr, List.length_cons, List.length_nil, List.map_cons, List.map_nil, List.cons_append, List.nil_append, List.replicate, List.replicate_succ, List.replicate_zero, List.getElem?_cons_zero, List.getElem?_cons_succ, List.set_cons_zero, List.set_cons_succ, if_true, if_false, reduceIte, Nat.reduceAdd, Nat.reduceSub, Nat.reduceEqDiff, Nat.reduceLT, Nat.reduceLeDiff, Int.reduceLT, Int.reduceLE, Int.reduceNeg, Int.reduceMul, Int.reduceAdd, Int.reduceSub, Int.reduceToNat, Int.reducePow, Int.reduceEq, ok, bok, deref, mkL, lstW, tupW, dats, Option.map_some, appendW, insertW, setL, isL, listW, tupleW, lenW, absW, intC, maxW, minW, idxW, addW, subW_e, modW_e, divW_e, powW_e, mulW, intW, lt_e, gt_e, le_e, ge_e, ltW, allW_e, anyW_e, sumW_e, lW, setW, lstAt, cutW, backW, isW, isiW, iLT_none, iLT_bool, iLT_int, iLT_str, iLT_list, iLT_tup, iL_none, iL_bool, iL_int, iL_str, iL_list, iL_tup, iT_none, iT_bool, iT_int, iT_str, iT_list, iT_tup, iS_none, iS_bool, iS_int, iS_str, iS_list, iS_tup, iI_none, iI_bool, iI_int, iI_str, iI_list, iI_tup, iB_none, iB_bool, iB_int, iB_str, iB_list, iB_tup, Bool.false_eq_true, reduceCtorEq, Bool.not_true, Bool.not_false, decide_true, decide_false, List.zip_cons_cons, List.zip_nil_left, List.foldl_cons, List.foldl_nil, and_self, and_true, true_and, Bool.and_true, Bool.true_and, Bool.or_true, Bool.true_or, *])
def OkA (h : Hh) : Prop := h.all okM = true
theorem OkA.nil : OkA [] := rfl
theorem OkA.app {h : Hh} {o : Option MO} (x : OkA h) (y : okM o = true) : OkA (h ++ [o]) := by
  unfold OkA at *
  rw [List.all_append, x]
  simp [y]
theorem okM_ints (a b c : Int) : okM (some (.lst [.int a, .int b, .int c])) = true := by simp [okM, noLs, noL]
theorem OkA.only {h h' : Hh} {b c : Nat} (x : OkA h) (o : Only b h h') (bx : BoxAt h' b c) : OkA h' := by
  unfold OkA at *
  rw [List.all_eq_true] at *
  intro z hz
  obtain ⟨i, hi, e⟩ := List.getElem_of_mem hz
  have e' : h'[i]? = some z := by rw [List.getElem?_eq_getElem hi, e]
  by_cases hb : i = b
  · subst hb
    obtain ⟨d, s, k, q, _⟩ := bx
    rw [q] at e'
    cases e'
    exact okM_ints _ _ _
  · rw [o.off i hb] at e'
    exact x z (List.mem_of_getElem? e')
theorem OkA.take {h : Hh} (n : Nat) (x : OkA h) : OkA (h.take n) := by
  unfold OkA at *
  rw [List.all_eq_true] at *
  exact fun z hz => x z (List.mem_of_mem_take hz)
end DL
set_option maxRecDepth 100000
set_option maxHeartbeats 400000
namespace DL
open PySem L2
variable [HW]
def Srt (r : List Str) (key : Str → Nat) (m : List Str) : Prop := m.Perm r ∧ m.Pairwise fun a b => key a < key b ∨ (key a = key b ∧ r.idxOf a < r.idxOf b)
theorem Srt.eq {r m m' : List Str} {key : Str → Nat} (h : Srt r key m) (h' : Srt r key m') : m = m' := by
  refine List.Perm.eq_of_pairwise (fun a b ha hb h1 h2 => ?_) h.2 h'.2 (h.1.trans h'.1.symm)
  omega
theorem Srt.congr {r m : List Str} {key key' : Str → Nat} (h : Srt r key m) (e : ∀ s ∈ r, key s = key' s) : Srt r key' m := by
  refine ⟨h.1, List.Pairwise.imp_of_mem ?_ h.2⟩
  intro a b ha hb q
  rw [← e a (h.1.mem_iff.mp ha), ← e b (h.1.mem_iff.mp hb)]
  exact q
theorem pw_idxS {r : List Str} (nd : r.Nodup) : r.Pairwise fun a b => r.idxOf a < r.idxOf b := by
  rw [List.pairwise_iff_getElem]
  intro i j hi hj hij
  rw [idx_of nd hi, idx_of nd hj]
  exact hij
theorem Srt.start {r : List Str} (nd : r.Nodup) : Srt r (fun _ => 0) r := ⟨.refl _, (pw_idxS nd).imp fun h => .inr ⟨rfl, h⟩⟩
end DL
namespace DL
open PySem L2
variable [HW]
end DL
set_option maxRecDepth 100000
set_option maxHeartbeats 400000
namespace DL
open PySem L2
variable [HW]
local macro_rules | `(tactic| walk_at "dl") => `(tactic| simp (config := { dsimp := false }) only [↓fnM_e, ↓sSeq_e, seqK_nx, seqK_rt, seqK_bk, seqK_ct, retK_rt, retK_nx, ↓sFrz_e, frK_some, ↓sAsg, ↓sRet, ↓sRetN, ↓sIf, ↓sExpr, ↓sSkip, ↓sNever, ↓sPar, ↓sFor, ↓sSub, ↓fVar, ↓fC, ↓fNil, ↓fCons, ↓fA, ↓f1, ↓f2, ↓fB, ↓fIf, ↓fNeg, ↓fNot, ↓fAnd, ↓fOr, ↓bNot, ↓bAnd, ↓bOr, ↓bYes, ↓obnd_x, ob_some, ↓sbnd_x, sb_some, ↓ite_x, iteK_t, iteK_f, gN, gT, gC, gE, ↓rng1I, ↓rng2I, ↓seqI, ↓enumA, ↓zipI, ↓strI, ↓fLc, ↓fDc, ↓fM, ↓fSl, ↓oNone, ↓oSome, ↓fRev, wipeE, ↓kwM, permM, permL, List.foldr, List.length_cons, List.length_nil, List.map_cons, List.map_nil, List.cons_append, List.nil_append, List.replicate, List.replicate_succ, List.replicate_zero, List.getElem?_cons_zero, List.getElem?_cons_succ, List.set_cons_zero, List.set_cons_succ, if_true, if_false, reduceIte, Nat.reduceAdd, Nat.reduceSub, Nat.reduceEqDiff, Nat.reduceLT, Nat.reduceLeDiff, Int.reduceLT, Int.reduceLE, Int.reduceNeg, Int.reduceMul, Int.reduceAdd, Int.reduceSub, Int.reduceToNat, Int.reducePow, Int.reduceEq, ok, bok, deref, mkL, lstW, tupW, dats, Option.map_some, appendW, insertW, setL, isL, listW, tupleW, lenW, absW, intC, maxW, minW, idxW, addW, subW_e, modW_e, divW_e, powW_e, mulW, intW, lt_e, gt_e, le_e, ge_e, ltW, allW_e, anyW_e, sumW_e, lW, setW, lstAt, cutW, backW, isW, isiW, iLT_none, iLT_bool, iLT_int, iLT_str, iLT_list, iLT_tup, iL_none, iL_bool, iL_int, iL_str, iL_list, iL_tup, iT_none, iT_bool, iT_int, iT_str, iT_list, iT_tup, iS_none, iS_bool, iS_int, iS_str, iS_list, iS_tup, iI_none, iI_bool, iI_int, iI_str, iI_list, iI_tup, iB_none, iB_bool, iB_int, iB_str, iB_list, iB_tup, Bool.false_eq_true, reduceCtorEq, Bool.not_true, Bool.not_false, decide_true, decide_false, List.zip_cons_cons, List.zip_nil_left, List.foldl_cons, List.foldl_nil, and_self, and_true, true_and, Bool.and_true, Bool.true_and, Bool.or_true, Bool.true_or, *])
end DL
set_option maxRecDepth 100000
set_option maxHeartbeats 400000
namespace DL
open PySem L2
variable [HW]
local macro_rules | `(tactic| walk_at "dl") => `(tactic| simp (config := { dsimp := false }) only [↓fnM_e, ↓sSeq_e, seqK_nx, seqK_rt, seqK_bk, seqK_ct, retK_rt, retK_nx, ↓sFrz_e, frK_some, ↓sAsg, ↓sRet, ↓sRetN, ↓sIf, ↓sExpr, ↓sSkip, ↓sNever, ↓sPar, ↓sFor, ↓sSub, ↓fVar, ↓fC, ↓fNil, ↓fCons, ↓fA, ↓f1, ↓f2, ↓fB, ↓fIf, ↓fNeg, ↓fNot, ↓fAnd, ↓fOr, ↓bNot, ↓bAnd, ↓bOr, ↓bYes, ↓obnd_x, ob_some, ↓sbnd_x, sb_some, ↓ite_x, iteK_t, iteK_f, gN, gT, gC, gE, ↓rng1I, ↓rng2I, ↓seqI, ↓enumA, ↓zipI, ↓strI, ↓fLc, ↓fDc, ↓fM, ↓fSl, ↓oNone, ↓oSome, ↓fRev, wipeE, ↓kwM, permM, permL, List.foldr, List.length_cons, List.length_nil, List.map_cons, List.map_nil, List.cons_append, List.nil_append, List.replicate, List.replicate_succ, List.replicate_zero, List.getElem?_cons_zero, List.getElem?_cons_succ, List.set_cons_zero, List.set_cons_succ, if_true, if_false, reduceIte, Nat.reduceAdd, Nat.reduceSub, Nat.reduceEqDiff, Nat.reduceLT, Nat.reduceLeDiff, Int.reduceLT, Int.reduceLE, Int.reduceNeg, Int.reduceMul, Int.reduceAdd, Int.reduceSub, Int.reduceToNat, Int.reducePow, Int.reduceEq, ok, bok, deref, mkL, lstW, tupW, dats, Option.map_some, appendW, insertW, setL, isL, listW, tupleW, lenW, absW, intC, maxW, minW, idxW, addW, subW_e, modW_e, divW_e, powW_e, mulW, intW, lt_e, gt_e, le_e, ge_e, ltW, allW_e, anyW_e, sumW_e, lW, setW, lstAt, cutW, backW, isW, isiW, iLT_none, iLT_bool, iLT_int, iLT_str, iLT_list, iLT_tup, iL_none, iL_bool, iL_int, iL_str, iL_list, iL_tup, iT_none, iT_bool, iT_int, iT_str, iT_list, iT_tup, iS_none, iS_bool, iS_int, iS_str, iS_list, iS_tup, iI_none, iI_bool, iI_int, iI_str, iI_list, iI_tup, iB_none, iB_bool, iB_int, iB_str, iB_list, iB_tup, Bool.false_eq_true, reduceCtorEq, Bool.not_true, Bool.not_false, decide_true, decide_false, List.zip_cons_cons, List.zip_nil_left, List.foldl_cons, List.foldl_nil, and_self, and_true, true_and, Bool.and_true, Bool.true_and, Bool.or_true, Bool.true_or, *])
end DL
set_option maxRecDepth 100000
set_option maxHeartbeats 400000
namespace DL
open PySem L2
variable [HW]
local macro_rules | `(tactic| walk_at "dl") => `(tactic| simp (config := { dsimp := false }) only [↓fnM_e, ↓sSeq_e, seqK_nx, seqK_rt, seqK_bk, seqK_ct, retK_rt, retK_nx, ↓sFrz_e, frK_some, ↓sAsg, ↓sRet, ↓sRetN, ↓sIf, ↓sExpr, ↓sSkip, ↓sNever, ↓sPar, ↓sFor, ↓sSub, ↓fVar, ↓fC, ↓fNil, ↓fCons, ↓fA, ↓f1, ↓f2, ↓fB, ↓fIf, ↓fNeg, ↓fNot, ↓fAnd, ↓fOr, ↓bNot, ↓bAnd, ↓bOr, ↓bYes, ↓obnd_x, ob_some, ↓sbnd_x, sb_some, ↓ite_x, iteK_t, iteK_f, gN, gT, gC, gE, ↓rng1I, ↓rng2I, ↓seqI, ↓enumA, ↓zipI, ↓strI, ↓fLc, ↓fDc, ↓fM, ↓fSl, ↓oNone, ↓oSome, ↓fRev, wipeE, ↓kwM, permM, permL, List.foldr, List.length_cons, List.length_nil, List.map_cons, List.map_nil, List.cons_append, List.nil_append, List.replicate, List.replicate_succ, List.replicate_zero, List.getElem?_cons_zero, List.getElem?_cons_succ, List.set_cons_zero, List.set_cons_succ, if_true, if_false, reduceIte, Nat.reduceAdd, Nat.reduceSub, Nat.reduceEqDiff, Nat.reduceLT, Nat.reduceLeDiff, Int.reduceLT, Int.reduceLE, Int.reduceNeg, Int.reduceMul, Int.reduceAdd, Int.reduceSub, Int.reduceToNat, Int.reducePow, Int.reduceEq, ok, bok, deref, mkL, lstW, tupW, dats, Option.map_some, appendW, insertW, setL, isL, listW, tupleW, lenW, absW, intC, maxW, minW, idxW, addW, subW_e, modW_e, divW_e, powW_e, mulW, intW, lt_e, gt_e, le_e, ge_e, ltW, allW_e, anyW_e, sumW_e, lW, setW, lstAt, cutW, backW, isW, isiW, iLT_none, iLT_bool, iLT_int, iLT_str, iLT_list, iLT_tup, iL_none, iL_bool, iL_int, iL_str, iL_list, iL_tup, iT_none, iT_bool, iT_int, iT_str, iT_list, iT_tup, iS_none, iS_bool, iS_int, iS_str, iS_list, iS_tup, iI_none, iI_bool, iI_int, iI_str, iI_list, iI_tup, iB_none, iB_bool, iB_int, iB_str, iB_list, iB_tup, Bool.false_eq_true, reduceCtorEq, Bool.not_true, Bool.not_false, decide_true, decide_false, List.zip_cons_cons, List.zip_nil_left, List.foldl_cons, List.foldl_nil, and_self, and_true, true_and, Bool.and_true, Bool.true_and, Bool.or_true, Bool.true_or, *])
theorem all_noDM_app {h : Hh} {o : Option MO} (hk : h.all noDM = true) (ho : noDM o = true) : (h ++ [o]).all noDM = true := by
  rw [List.all_append, hk]
  simp [ho]
end DL
set_option maxRecDepth 100000
set_option maxHeartbeats 400000
namespace DL
open PySem L2
variable [HW]
local macro_rules | `(tactic| walk_at "dl") => `(tactic| simp (config := { dsimp := false }) only [↓fnM_e, ↓sSeq_e, seqK_nx, seqK_rt, seqK_bk, seqK_ct, retK_rt, retK_nx, ↓sFrz_e, frK_some, ↓sAsg, ↓sRet, ↓sRetN, ↓sIf, ↓sExpr, ↓sSkip, ↓sNever, ↓sPar, ↓sFor, ↓sSub, ↓fVar, ↓fC, ↓fNil, ↓fCons, ↓fA, ↓f1, ↓f2, ↓fB, ↓fIf, ↓fNeg, ↓fNot, ↓fAnd, ↓fOr, ↓bNot, ↓bAnd, ↓bOr, ↓bYes, ↓obnd_x, ob_some, ↓sbnd_x, sb_some, ↓ite_x, iteK_t, iteK_f, gN, gT, gC, gE, ↓rng1I, ↓rng2I, ↓seqI, ↓enumA, ↓zipI, ↓strI, ↓fLc, ↓fDc, ↓fM, ↓fSl, ↓oNone, ↓oSome, ↓fRev, wipeE, ↓kwM, permM, permL, List.foldr, List.length_cons, List.length_nil, List.map_cons, List.map_nil, List.cons_append, List.nil_append, List.replicate, List.replicate_succ, List.replicate_zero, List.getElem?_cons_zero, List.getElem?_cons_succ, List.set_cons_zero, List.set_cons_succ, if_true, if_false, reduceIte, Nat.reduceAdd, Nat.reduceSub, Nat.reduceEqDiff, Nat.reduceLT, Nat.reduceLeDiff, Int.reduceLT, Int.reduceLE, Int.reduceNeg, Int.reduceMul, Int.reduceAdd, Int.reduceSub, Int.reduceToNat, Int.reducePow, Int.reduceEq, ok, bok, deref, mkL, lstW, tupW, dats, Option.map_some, appendW, insertW, setL, isL, listW, tupleW, lenW, absW, intC, maxW, minW, idxW, addW, subW_e, modW_e, divW_e, powW_e, mulW, intW, lt_e, gt_e, le_e, ge_e, ltW, allW_e, anyW_e, sumW_e, lW, setW, lstAt, cutW, backW, isW, isiW, iLT_none, iLT_bool, iLT_int, iLT_str, iLT_list, iLT_tup, iL_none, iL_bool, iL_int, iL_str, iL_list, iL_tup, iT_none, iT_bool, iT_int, iT_str, iT_list, iT_tup, iS_none, iS_bool, iS_int, iS_str, iS_list, iS_tup, iI_none, iI_bool, iI_int, iI_str, iI_list, iI_tup, iB_none, iB_bool, iB_int, iB_str, iB_list, iB_tup, Bool.false_eq_true, reduceCtorEq, Bool.not_true, Bool.not_false, decide_true, decide_false, List.zip_cons_cons, List.zip_nil_left, List.foldl_cons, List.foldl_nil, and_self, and_true, true_and, Bool.and_true, Bool.true_and, Bool.or_true, Bool.true_or, *])
end DL
set_option maxRecDepth 100000
set_option maxHeartbeats 400000
namespace DL
open PySem L2
variable [HW]
local macro_rules | `(tactic| walk_at "dl") => `(tactic| simp (config := { dsimp := false }) only [↓fnM_e, ↓sSeq_e, seqK_nx, seqK_rt, seqK_bk, seqK_ct, retK_rt, retK_nx, ↓sFrz_e, frK_some, ↓sAsg, ↓sRet, ↓sRetN, ↓sIf, ↓sExpr, ↓sSkip, ↓sNever, ↓sPar, ↓sFor, ↓sSub, ↓fVar, ↓fC, ↓fNil, ↓fCons, ↓fA, ↓f1, ↓f2, ↓fB, ↓fIf, ↓fNeg, ↓fNot, ↓fAnd, ↓fOr, ↓bNot, ↓bAnd, ↓bOr, ↓bYes, ↓obnd_x, ob_some, ↓sbnd_x, sb_some, ↓ite_x, iteK_t, iteK_f, gN, gT, gC, gE, ↓rng1I, ↓rng2I, ↓seqI, ↓enumA, ↓zipI, ↓strI, ↓fLc, ↓fDc, ↓fM, ↓fSl, ↓oNone, ↓oSome, ↓fRev, wipeE, ↓kwM, permM, permL, List.foldr, List.length_cons, List.length_nil, List.map_cons, List.map_nil, List.cons_append, List.nil_append, List.replicate, List.replicate_succ, List.replicate_zero, List.getElem?_cons_zero, List.getElem?_cons_succ, List.set_cons_zero, List.set_cons_succ, if_true, if_false, reduceIte, Nat.reduceAdd, Nat.reduceSub, Nat.reduceEqDiff, Nat.reduceLT, Nat.reduceLeDiff, Int.reduceLT, Int.reduceLE, Int.reduceNeg, Int.reduceMul, Int.reduceAdd, Int.reduceSub, Int.reduceToNat, Int.reducePow, Int.reduceEq, ok, bok, deref, mkL, lstW, tupW, dats, Option.map_some, appendW, insertW, setL, isL, listW, tupleW, lenW, absW, intC, maxW, minW, idxW, addW, subW_e, modW_e, divW_e, powW_e, mulW, intW, lt_e, gt_e, le_e, ge_e, ltW, allW_e, anyW_e, sumW_e, lW, setW, lstAt, cutW, backW, isW, isiW, iLT_none, iLT_bool, iLT_int, iLT_str, iLT_list, iLT_tup, iL_none, iL_bool, iL_int, iL_str, iL_list, iL_tup, iT_none, iT_bool, iT_int, iT_str, iT_list, iT_tup, iS_none, iS_bool, iS_int, iS_str, iS_list, iS_tup, iI_none, iI_bool, iI_int, iI_str, iI_list, iI_tup, iB_none, iB_bool, iB_int, iB_str, iB_list, iB_tup, Bool.false_eq_true, reduceCtorEq, Bool.not_true, Bool.not_false, decide_true, decide_false, List.zip_cons_cons, List.zip_nil_left, List.foldl_cons, List.foldl_nil, and_self, and_true, true_and, Bool.and_true, Bool.true_and, Bool.or_true, Bool.true_or, *])
structure JD (h0 h : Hh) : Prop where
  pre : Pre h0 h
  len : h0.length ≤ h.length
  nod : h.all noDM = true
theorem JD.app {h0 h : Hh} (j : JD h0 h) {o : Option MO} (ho : noDM o = true) : JD h0 (h ++ [o]) := ⟨j.pre.app j.len, by rw [List.length_append]; have := j.len; omega, all_noDM_app j.nod ho⟩
theorem noDM_ints (a b c : Int) : noDM (some (.lst [.int a, .int b, .int c])) = true := by simp [noDM, noDs, noD]
theorem nod_only {h h' : Hh} {b c : Nat} (hk : h.all noDM = true) (o : Only b h h') (bx : BoxAt h' b c) : h'.all noDM = true := by
  rw [List.all_eq_true] at *
  intro z hz
  obtain ⟨i, hi, e⟩ := List.getElem_of_mem hz
  have e' : h'[i]? = some z := by rw [List.getElem?_eq_getElem hi, e]
  by_cases hb : i = b
  · subst hb
    obtain ⟨d, s, k, q, _⟩ := bx
    rw [q] at e'
    cases e'
    exact noDM_ints _ _ _
  · rw [o.off i hb] at e'
    exact hk z (List.mem_of_getElem? e')
theorem JD.only {h0 h h' : Hh} {b c : Nat} (j : JD h0 h) (hb : h0.length ≤ b) (o : Only b h h') (bx : BoxAt h' b c) : JD h0 h' := ⟨j.pre.only hb o, by rw [o.len]; exact j.len, nod_only j.nod o bx⟩
end DL
set_option maxRecDepth 100000
set_option maxHeartbeats 400000
namespace DL
open PySem L2
variable [HW]
def lp (N : Nat) : Nat → Nat
  | 0 => 1
  | t + 1 => lp N t * (N - t) / (t + 1)
end DL
set_option maxRecDepth 100000
set_option maxHeartbeats 400000
namespace DL
open PySem L2
variable [HW]
def it (f : Str → Str) : Nat → Str → Str
  | 0, s => s
  | k + 1, s => f (it f k s)
def img (f : Str → Str) (s : List Str) : List Str := (uR (s.map f)).mergeSort leT
def lev (f : Str → Str) (S : List Str) : Nat → List Str
  | 0 => S
  | k + 1 => img f (lev f S k)
structure Sor (l : List Str) : Prop where
  nd : l.Nodup
  pw : l.Pairwise fun a b => leT a b = true
theorem Sor.eq {a b : List Str} (x : Sor a) (y : Sor b) (h : ∀ t, t ∈ a ↔ t ∈ b) : a = b := hs_eq x.nd x.pw y.nd y.pw h
section
variable {f : Str → Str} {S : List Str} (hS : Sor S) (hf : ∀ s ∈ S, f s ∈ S)
include hS hf
variable {K : Nat} (hK : lev f S (K + 1) = lev f S K)
include hK
end
noncomputable def per (f : Str → Str) (s : Str) : Nat := ((List.range 1000).find? fun k => decide (0 < k ∧ it f k s = s)).getD 0
end DL
set_option maxRecDepth 100000
set_option maxHeartbeats 400000
namespace DL
open PySem L2
variable [HW]
structure Cor (f : Str → Str) (C : List Str) (n : Nat) : Prop where
  sor : Sor C
  stay : ∀ s ∈ C, f s ∈ C
  per : ∀ s ∈ C, ∃ p, 0 < p ∧ p ≤ n ∧ it f p s = s ∧ ∀ k, 0 < k → k < p → it f k s ≠ s
section
variable {f : Str → Str} {C : List Str} {n : Nat} (c : Cor f C n) (hn : n < 1000)
include c hn
end
end DL
namespace DL
open PySem L2
variable [HW]
end DL
set_option maxRecDepth 100000
set_option maxHeartbeats 400000
namespace DL
open PySem L2
variable [HW]
local macro_rules | `(tactic| walk_at "dl") => `(tactic| simp (config := { dsimp := false }) only [↓fnM_e, ↓sSeq_e, seqK_nx, seqK_rt, seqK_bk, seqK_ct, retK_rt, retK_nx, ↓sFrz_e, frK_some, ↓sAsg, ↓sRet, ↓sRetN, ↓sIf, ↓sExpr, ↓sSkip, ↓sNever, ↓sPar, ↓sFor, ↓sSub, ↓fVar, ↓fC, ↓fNil, ↓fCons, ↓fA, ↓f1, ↓f2, ↓fB, ↓fIf, ↓fNeg, ↓fNot, ↓fAnd, ↓fOr, ↓bNot, ↓bAnd, ↓bOr, ↓bYes, ↓obnd_x, ob_some, ↓sbnd_x, sb_some, ↓ite_x, iteK_t, iteK_f, gN, gT, gC, gE, ↓rng1I, ↓rng2I, ↓seqI, ↓enumA, ↓zipI, ↓strI, ↓fLc, ↓fDc, ↓fM, ↓fSl, ↓oNone, ↓oSome, ↓fRev, wipeE, ↓kwM, permM, permL, List.foldr, List.length_cons, List.length_nil, List.map_cons, List.map_nil, List.cons_append, List.nil_append, List.replicate, List.replicate_succ, List.replicate_zero, List.getElem?_cons_zero, List.getElem?_cons_succ, List.set_cons_zero, List.set_cons_succ, if_true, if_false, reduceIte, Nat.reduceAdd, Nat.reduceSub, Nat.reduceEqDiff, Nat.reduceLT, Nat.reduceLeDiff, Int.reduceLT, Int.reduceLE, Int.reduceNeg, Int.reduceMul, Int.reduceAdd, Int.reduceSub, Int.reduceToNat, Int.reducePow, Int.reduceEq, ok, bok, deref, mkL, lstW, tupW, dats, Option.map_some, appendW, insertW, setL, isL, listW, tupleW, lenW, absW, intC, maxW, minW, idxW, addW, subW_e, modW_e, divW_e, powW_e, mulW, intW, lt_e, gt_e, le_e, ge_e, ltW, allW_e, anyW_e, sumW_e, lW, setW, lstAt, cutW, backW, isW, isiW, iLT_none, iLT_bool, iLT_int, iLT_str, iLT_list, iLT_tup, iL_none, iL_bool, iL_int, iL_str, iL_list, iL_tup, iT_none, iT_bool, iT_int, iT_str, iT_list, iT_tup, iS_none, iS_bool, iS_int, iS_str, iS_list, iS_tup, iI_none, iI_bool, iI_int, iI_str, iI_list, iI_tup, iB_none, iB_bool, iB_int, iB_str, iB_list, iB_tup, Bool.false_eq_true, reduceCtorEq, Bool.not_true, Bool.not_false, decide_true, decide_false, List.zip_cons_cons, List.zip_nil_left, List.foldl_cons, List.foldl_nil, and_self, and_true, true_and, Bool.and_true, Bool.true_and, Bool.or_true, Bool.true_or, *])
structure Rnd (S : List Str) (ps : List (Str × Str)) : Prop where
  sor : Sor S
  pos : 0 < S.length
  few : S.length ≤ 30
  txt : Txts S
  key : ps.map (·.1) = S
  tgt : ∀ p ∈ ps, p.2 ∈ S
section
variable {S : List Str} {ps : List (Str × Str)} (R : Rnd S ps)
include R
theorem Rnd.call : CallOf S ps := ⟨by rw [R.key], R.tgt⟩
theorem Rnd.nd : (ps.map (·.1)).Nodup := by rw [R.key]; exact R.sor.nd
theorem Rnd.len : ps.length = S.length := by have := congrArg List.length R.key; rw [List.length_map] at this; exact this
theorem Rnd.stay : ∀ s ∈ S, goal ps s ∈ S := fun s hs => (R.call.goal_mem hs).2
theorem Rnd.get {s : Str} (hs : s ∈ S) : getD (sdic (tld ps)) (.str s) = some (some (.str (goal ps s))) := by
  rw [getD_sdic, look_tld, (R.call.goal_mem hs).1]; rfl
end
end DL
set_option maxRecDepth 100000
set_option maxHeartbeats 400000
namespace DL
open PySem L2
variable [HW]
local macro_rules | `(tactic| walk_at "dl") => `(tactic| simp (config := { dsimp := false }) only [↓fnM_e, ↓sSeq_e, seqK_nx, seqK_rt, seqK_bk, seqK_ct, retK_rt, retK_nx, ↓sFrz_e, frK_some, ↓sAsg, ↓sRet, ↓sRetN, ↓sIf, ↓sExpr, ↓sSkip, ↓sNever, ↓sPar, ↓sFor, ↓sSub, ↓fVar, ↓fC, ↓fNil, ↓fCons, ↓fA, ↓f1, ↓f2, ↓fB, ↓fIf, ↓fNeg, ↓fNot, ↓fAnd, ↓fOr, ↓bNot, ↓bAnd, ↓bOr, ↓bYes, ↓obnd_x, ob_some, ↓sbnd_x, sb_some, ↓ite_x, iteK_t, iteK_f, gN, gT, gC, gE, ↓rng1I, ↓rng2I, ↓seqI, ↓enumA, ↓zipI, ↓strI, ↓fLc, ↓fDc, ↓fM, ↓fSl, ↓oNone, ↓oSome, ↓fRev, wipeE, ↓kwM, permM, permL, List.foldr, List.length_cons, List.length_nil, List.map_cons, List.map_nil, List.cons_append, List.nil_append, List.replicate, List.replicate_succ, List.replicate_zero, List.getElem?_cons_zero, List.getElem?_cons_succ, List.set_cons_zero, List.set_cons_succ, if_true, if_false, reduceIte, Nat.reduceAdd, Nat.reduceSub, Nat.reduceEqDiff, Nat.reduceLT, Nat.reduceLeDiff, Int.reduceLT, Int.reduceLE, Int.reduceNeg, Int.reduceMul, Int.reduceAdd, Int.reduceSub, Int.reduceToNat, Int.reducePow, Int.reduceEq, ok, bok, deref, mkL, lstW, tupW, dats, Option.map_some, appendW, insertW, setL, isL, listW, tupleW, lenW, absW, intC, maxW, minW, idxW, addW, subW_e, modW_e, divW_e, powW_e, mulW, intW, lt_e, gt_e, le_e, ge_e, ltW, allW_e, anyW_e, sumW_e, lW, setW, lstAt, cutW, backW, isW, isiW, iLT_none, iLT_bool, iLT_int, iLT_str, iLT_list, iLT_tup, iL_none, iL_bool, iL_int, iL_str, iL_list, iL_tup, iT_none, iT_bool, iT_int, iT_str, iT_list, iT_tup, iS_none, iS_bool, iS_int, iS_str, iS_list, iS_tup, iI_none, iI_bool, iI_int, iI_str, iI_list, iI_tup, iB_none, iB_bool, iB_int, iB_str, iB_list, iB_tup, Bool.false_eq_true, reduceCtorEq, Bool.not_true, Bool.not_false, decide_true, decide_false, List.zip_cons_cons, List.zip_nil_left, List.foldl_cons, List.foldl_nil, and_self, and_true, true_and, Bool.and_true, Bool.true_and, Bool.or_true, Bool.true_or, *])
section
variable {x : D} {l : Bool} {S : List Str} {ps : List (Str × Str)} {h : Hh} (R : Rnd S ps) (hx : IsSeq x (ps.map (prW l))) {K : Nat} (hK : lev (goal ps) S (K + 1) = lev (goal ps) S K) (hm : ∀ k, k < K → lev (goal ps) S (k + 1) ≠ lev (goal ps) S k) (kS : K ≤ S.length)
include R hK
include hx hm kS
end
end DL
namespace DL
open PySem L2
variable [HW]
end DL
set_option maxRecDepth 100000
set_option maxHeartbeats 400000
namespace DL
open PySem L2
variable [HW]
local macro_rules | `(tactic| walk_at "dl") => `(tactic| simp (config := { dsimp := false }) only [↓fnM_e, ↓sSeq_e, seqK_nx, seqK_rt, seqK_bk, seqK_ct, retK_rt, retK_nx, ↓sFrz_e, frK_some, ↓sAsg, ↓sRet, ↓sRetN, ↓sIf, ↓sExpr, ↓sSkip, ↓sNever, ↓sPar, ↓sFor, ↓sSub, ↓fVar, ↓fC, ↓fNil, ↓fCons, ↓fA, ↓f1, ↓f2, ↓fB, ↓fIf, ↓fNeg, ↓fNot, ↓fAnd, ↓fOr, ↓bNot, ↓bAnd, ↓bOr, ↓bYes, ↓obnd_x, ob_some, ↓sbnd_x, sb_some, ↓ite_x, iteK_t, iteK_f, gN, gT, gC, gE, ↓rng1I, ↓rng2I, ↓seqI, ↓enumA, ↓zipI, ↓strI, ↓fLc, ↓fDc, ↓fM, ↓fSl, ↓oNone, ↓oSome, ↓fRev, wipeE, ↓kwM, permM, permL, List.foldr, List.length_cons, List.length_nil, List.map_cons, List.map_nil, List.cons_append, List.nil_append, List.replicate, List.replicate_succ, List.replicate_zero, List.getElem?_cons_zero, List.getElem?_cons_succ, List.set_cons_zero, List.set_cons_succ, if_true, if_false, reduceIte, Nat.reduceAdd, Nat.reduceSub, Nat.reduceEqDiff, Nat.reduceLT, Nat.reduceLeDiff, Int.reduceLT, Int.reduceLE, Int.reduceNeg, Int.reduceMul, Int.reduceAdd, Int.reduceSub, Int.reduceToNat, Int.reducePow, Int.reduceEq, ok, bok, deref, mkL, lstW, tupW, dats, Option.map_some, appendW, insertW, setL, isL, listW, tupleW, lenW, absW, intC, maxW, minW, idxW, addW, subW_e, modW_e, divW_e, powW_e, mulW, intW, lt_e, gt_e, le_e, ge_e, ltW, allW_e, anyW_e, sumW_e, lW, setW, lstAt, cutW, backW, isW, isiW, iLT_none, iLT_bool, iLT_int, iLT_str, iLT_list, iLT_tup, iL_none, iL_bool, iL_int, iL_str, iL_list, iL_tup, iT_none, iT_bool, iT_int, iT_str, iT_list, iT_tup, iS_none, iS_bool, iS_int, iS_str, iS_list, iS_tup, iI_none, iI_bool, iI_int, iI_str, iI_list, iI_tup, iB_none, iB_bool, iB_int, iB_str, iB_list, iB_tup, Bool.false_eq_true, reduceCtorEq, Bool.not_true, Bool.not_false, decide_true, decide_false, List.zip_cons_cons, List.zip_nil_left, List.foldl_cons, List.foldl_nil, and_self, and_true, true_and, Bool.and_true, Bool.true_and, Bool.or_true, Bool.true_or, *])
structure Nam (l : List Str) (ms : List (Str × Str)) : Prop where
  key : ms.map (·.1) = l
  nd : l.Nodup
  inj : (ms.map (·.2)).Nodup
  txt : Txts (ms.map (·.2))
section
variable {l : List Str} {ms : List (Str × Str)} (N : Nam l ms)
include N
theorem Nam.nk : (ms.map (·.1)).Nodup := by rw [N.key]; exact N.nd
theorem Nam.look {s : Str} (hs : s ∈ l) : ∃ p ∈ ms, p.1 = s ∧ goal ms s = p.2 ∧ ms.lookup s = some p.2 := by
  rw [← N.key] at hs
  obtain ⟨p, hp, rfl⟩ := List.mem_map.mp hs
  refine ⟨p, hp, rfl, goal_of N.nk p hp, ?_⟩
  have : ∀ {ms : List (Str × Str)}, (ms.map (·.1)).Nodup → p ∈ ms → ms.lookup p.1 = some p.2 := fun {ms} => by
    induction ms with
    | nil => intro _ h; cases h
    | cons q ms ih =>
      intro nd h
      rw [List.map_cons, List.nodup_cons] at nd
      rcases List.mem_cons.mp h with rfl | h
      · rw [List.lookup_cons]; simp
      · rw [List.lookup_cons]
        have : p.1 ≠ q.1 := fun z => nd.1 (z ▸ List.mem_map.mpr ⟨p, h, rfl⟩)
        rw [beq_eq_false_iff_ne.mpr this]
        exact ih nd.2 h
  exact this N.nk hp
theorem Nam.get {s : Str} (hs : s ∈ l) : getD (sdic (tld ms)) (.str s) = some (some (.str (goal ms s))) := by
  obtain ⟨p, _, _, e1, e2⟩ := N.look hs
  rw [getD_sdic, look_tld, e2, e1]; rfl
theorem Nam.map : l.map (goal ms) = ms.map (·.2) := by
  rw [← N.key, List.map_map]
  apply List.map_congr_left
  intro p hp
  exact goal_of N.nk p hp
end
section
variable {r : List Str} {ms ps : List (Str × Str)} (N : Nam r ms) (c : CallOf r ps)
include N c
end
end DL
namespace DL
open PySem L2
variable [HW]
end DL
set_option maxRecDepth 100000
set_option maxHeartbeats 400000
namespace DL
open PySem L2
variable [HW]
local macro_rules | `(tactic| walk_at "dl") => `(tactic| simp (config := { dsimp := false }) only [↓fnM_e, ↓sSeq_e, seqK_nx, seqK_rt, seqK_bk, seqK_ct, retK_rt, retK_nx, ↓sFrz_e, frK_some, ↓sAsg, ↓sRet, ↓sRetN, ↓sIf, ↓sExpr, ↓sSkip, ↓sNever, ↓sPar, ↓sFor, ↓sSub, ↓fVar, ↓fC, ↓fNil, ↓fCons, ↓fA, ↓f1, ↓f2, ↓fB, ↓fIf, ↓fNeg, ↓fNot, ↓fAnd, ↓fOr, ↓bNot, ↓bAnd, ↓bOr, ↓bYes, ↓obnd_x, ob_some, ↓sbnd_x, sb_some, ↓ite_x, iteK_t, iteK_f, gN, gT, gC, gE, ↓rng1I, ↓rng2I, ↓seqI, ↓enumA, ↓zipI, ↓strI, ↓fLc, ↓fDc, ↓fM, ↓fSl, ↓oNone, ↓oSome, ↓fRev, wipeE, ↓kwM, permM, permL, List.foldr, List.length_cons, List.length_nil, List.map_cons, List.map_nil, List.cons_append, List.nil_append, List.replicate, List.replicate_succ, List.replicate_zero, List.getElem?_cons_zero, List.getElem?_cons_succ, List.set_cons_zero, List.set_cons_succ, if_true, if_false, reduceIte, Nat.reduceAdd, Nat.reduceSub, Nat.reduceEqDiff, Nat.reduceLT, Nat.reduceLeDiff, Int.reduceLT, Int.reduceLE, Int.reduceNeg, Int.reduceMul, Int.reduceAdd, Int.reduceSub, Int.reduceToNat, Int.reducePow, Int.reduceEq, ok, bok, deref, mkL, lstW, tupW, dats, Option.map_some, appendW, insertW, setL, isL, listW, tupleW, lenW, absW, intC, maxW, minW, idxW, addW, subW_e, modW_e, divW_e, powW_e, mulW, intW, lt_e, gt_e, le_e, ge_e, ltW, allW_e, anyW_e, sumW_e, lW, setW, lstAt, cutW, backW, isW, isiW, iLT_none, iLT_bool, iLT_int, iLT_str, iLT_list, iLT_tup, iL_none, iL_bool, iL_int, iL_str, iL_list, iL_tup, iT_none, iT_bool, iT_int, iT_str, iT_list, iT_tup, iS_none, iS_bool, iS_int, iS_str, iS_list, iS_tup, iI_none, iI_bool, iI_int, iI_str, iI_list, iI_tup, iB_none, iB_bool, iB_int, iB_str, iB_list, iB_tup, Bool.false_eq_true, reduceCtorEq, Bool.not_true, Bool.not_false, decide_true, decide_false, List.zip_cons_cons, List.zip_nil_left, List.foldl_cons, List.foldl_nil, and_self, and_true, true_and, Bool.and_true, Bool.true_and, Bool.or_true, Bool.true_or, *])
end DL
set_option maxRecDepth 100000
set_option maxHeartbeats 400000
namespace DL
open PySem L2
variable [HW]
section
variable {ρ ρ1 ρ2 : DL.Env} {h h1 h2 : Hh}
theorem xN : fNil ρ h = some ([], h) := rfl
theorem xC {E : EM} {g : AM} {w : W} {ws : List W} (he : E ρ h = some (w, h1)) (hg : g ρ h1 = some (ws, h2)) : fCons E g ρ h = some (w :: ws, h2) := by simp only [fCons, obnd, he, hg]
theorem xA {m : FM} {g : AM} {ws : List W} {r : Option (W × Hh)} (hg : g ρ h = some (ws, h1)) (hm : m ws h1 = r) : fA m g ρ h = r := by simp only [fA, obnd, hg, hm]
theorem x2 {f : W → W → Hh → Option (W × Hh)} {A B : EM} {x y : W} {r : Option (W × Hh)} (ha : A ρ h = some (x, h1)) (hb : B ρ h1 = some (y, h2)) (hf : f x y h2 = r) : f2 f A B ρ h = r := by simp only [f2, obnd, ha, hb, hf]
theorem xL {IT : IM} {k : TM} {f : EM} {vs : List Nat} {ds rs : List D} (hi : IT ρ h = some (ds, h1)) (e : lcL k bYes f (wipeE ρ vs) ds h1 = some (rs, h2)) (hl : rs.length ≤ sizeLine) : fLc false IT k bYes f vs ρ h = some (.dat (.list rs), h2) := by
  unfold fLc
  simp only [hi, obnd, e]
  rw [if_pos hl]
  rfl
theorem xT {E : EM} (he : E ρ h = some (.dat (.bool true), h1)) : bNot (fB E) ρ h = some (false, h1) := by
  unfold bNot fB
  simp only [he, obnd]
  rfl
theorem xO {A B : BM} {r : Option (Bool × Hh)} (ha : A ρ h = some (false, h1)) (hb : B ρ h1 = r) : bOr A B ρ h = r := by
  unfold bOr
  simp only [ha, obnd]
  exact hb
theorem xLst {ws : List W} {ds : List D} (e : dats ws = some ds) (hl : ds.length ≤ sizeLine) : lstW false ws h = some (.dat (.list ds), h) := by
  unfold lstW
  simp only [e, hl, if_true]
  rfl
theorem xAdd {a b : List D} (hl : a.length + b.length ≤ sizeLine) : addW false (.dat (.list a)) (.dat (.list b)) h = some (.dat (.list (a ++ b)), h) := by
  unfold addW
  simp only [deref, hl, if_true]
  rfl
theorem zA {E : EM} {k : TM} {rest : SM} {w : W} (he : E ρ h = some (w, h1)) (hk : k w ρ h1 = some ρ1) : sSeq (sAsg E k) rest ρ h = rest ρ1 h1 := by
  unfold sSeq sAsg
  simp only [he, sbnd, hk]
theorem zI {t : BM} {a rest : SM} (ht : t ρ h = some (false, h1)) : sSeq (sIf t a sSkip) rest ρ h = rest ρ h1 := by
  unfold sSeq sIf
  simp only [ht, sbnd, Bool.false_eq_true, if_false, sSkip]
theorem zP {g : AM} {is : List Nat} {rest : SM} {ws : List W} (hg : g ρ h = some (ws, h1)) (hl : ws.length = is.length) (hr : (is.zip ws).foldl (fun ρ p => ρ.set p.1 (some p.2)) ρ = ρ1) : sSeq (sPar g is) rest ρ h = rest ρ1 h1 := by
  unfold sSeq sPar
  simp only [hg, sbnd, hl, if_true, hr]
theorem zR {E : EM} {w : W} (he : E ρ h = some (w, h1)) : sRet E ρ h = some (.rt w, h1) := by
  unfold sRet
  simp only [he, sbnd]
end
end DL
namespace DL
open PySem L2
variable [HW]
end DL
set_option maxRecDepth 100000
set_option maxHeartbeats 400000
namespace DL
open PySem L2
variable [HW]
local macro_rules | `(tactic| walk_at "dl") => `(tactic| simp (config := { dsimp := false }) only [↓fnM_e, ↓sSeq_e, seqK_nx, seqK_rt, seqK_bk, seqK_ct, retK_rt, retK_nx, ↓sFrz_e, frK_some, ↓sAsg, ↓sRet, ↓sRetN, ↓sIf, ↓sExpr, ↓sSkip, ↓sNever, ↓sPar, ↓sFor, ↓sSub, ↓fVar, ↓fC, ↓fNil, ↓fCons, ↓fA, ↓f1, ↓f2, ↓fB, ↓fIf, ↓fNeg, ↓fNot, ↓fAnd, ↓fOr, ↓bNot, ↓bAnd, ↓bOr, ↓bYes, ↓obnd_x, ob_some, ↓sbnd_x, sb_some, ↓ite_x, iteK_t, iteK_f, gN, gT, gC, gE, ↓rng1I, ↓rng2I, ↓seqI, ↓enumA, ↓zipI, ↓strI, ↓fLc, ↓fDc, ↓fM, ↓fSl, ↓oNone, ↓oSome, ↓fRev, wipeE, ↓kwM, permM, permL, List.foldr, List.length_cons, List.length_nil, List.map_cons, List.map_nil, List.cons_append, List.nil_append, List.replicate, List.replicate_succ, List.replicate_zero, List.getElem?_cons_zero, List.getElem?_cons_succ, List.set_cons_zero, List.set_cons_succ, if_true, if_false, reduceIte, Nat.reduceAdd, Nat.reduceSub, Nat.reduceEqDiff, Nat.reduceLT, Nat.reduceLeDiff, Int.reduceLT, Int.reduceLE, Int.reduceNeg, Int.reduceMul, Int.reduceAdd, Int.reduceSub, Int.reduceToNat, Int.reducePow, Int.reduceEq, ok, bok, deref, mkL, lstW, tupW, dats, Option.map_some, appendW, insertW, setL, isL, listW, tupleW, lenW, absW, intC, maxW, minW, idxW, addW, subW_e, modW_e, divW_e, powW_e, mulW, intW, lt_e, gt_e, le_e, ge_e, ltW, allW_e, anyW_e, sumW_e, lW, setW, lstAt, cutW, backW, isW, isiW, iLT_none, iLT_bool, iLT_int, iLT_str, iLT_list, iLT_tup, iL_none, iL_bool, iL_int, iL_str, iL_list, iL_tup, iT_none, iT_bool, iT_int, iT_str, iT_list, iT_tup, iS_none, iS_bool, iS_int, iS_str, iS_list, iS_tup, iI_none, iI_bool, iI_int, iI_str, iI_list, iI_tup, iB_none, iB_bool, iB_int, iB_str, iB_list, iB_tup, Bool.false_eq_true, reduceCtorEq, Bool.not_true, Bool.not_false, decide_true, decide_false, List.zip_cons_cons, List.zip_nil_left, List.foldl_cons, List.foldl_nil, and_self, and_true, true_and, Bool.and_true, Bool.true_and, Bool.or_true, Bool.true_or, *])
section
variable {x : D} {l : Bool} {S : List Str} {ps : List (Str × Str)} {h : Hh} (R : Rnd S ps) (hx : IsSeq x (ps.map (prW l))) {K : Nat} (hK : lev (goal ps) S (K + 1) = lev (goal ps) S K) (hm : ∀ k, k < K → lev (goal ps) S (k + 1) ≠ lev (goal ps) S k) (kS : K ≤ S.length)
include R hx hK hm kS
end
section
variable {S : List Str} {ps : List (Str × Str)} (R : Rnd S ps)
include R
omit R in
omit R in
omit R in
omit R in
end
end DL
set_option maxRecDepth 100000
set_option maxHeartbeats 400000
namespace DL
open PySem L2
variable [HW]
local macro_rules | `(tactic| walk_at "dl") => `(tactic| simp (config := { dsimp := false }) only [↓fnM_e, ↓sSeq_e, seqK_nx, seqK_rt, seqK_bk, seqK_ct, retK_rt, retK_nx, ↓sFrz_e, frK_some, ↓sAsg, ↓sRet, ↓sRetN, ↓sIf, ↓sExpr, ↓sSkip, ↓sNever, ↓sPar, ↓sFor, ↓sSub, ↓fVar, ↓fC, ↓fNil, ↓fCons, ↓fA, ↓f1, ↓f2, ↓fB, ↓fIf, ↓fNeg, ↓fNot, ↓fAnd, ↓fOr, ↓bNot, ↓bAnd, ↓bOr, ↓bYes, ↓obnd_x, ob_some, ↓sbnd_x, sb_some, ↓ite_x, iteK_t, iteK_f, gN, gT, gC, gE, ↓rng1I, ↓rng2I, ↓seqI, ↓enumA, ↓zipI, ↓strI, ↓fLc, ↓fDc, ↓fM, ↓fSl, ↓oNone, ↓oSome, ↓fRev, wipeE, ↓kwM, permM, permL, List.foldr, List.length_cons, List.length_nil, List.map_cons, List.map_nil, List.cons_append, List.nil_append, List.replicate, List.replicate_succ, List.replicate_zero, List.getElem?_cons_zero, List.getElem?_cons_succ, List.set_cons_zero, List.set_cons_succ, if_true, if_false, reduceIte, Nat.reduceAdd, Nat.reduceSub, Nat.reduceEqDiff, Nat.reduceLT, Nat.reduceLeDiff, Int.reduceLT, Int.reduceLE, Int.reduceNeg, Int.reduceMul, Int.reduceAdd, Int.reduceSub, Int.reduceToNat, Int.reducePow, Int.reduceEq, ok, bok, deref, mkL, lstW, tupW, dats, Option.map_some, appendW, insertW, setL, isL, listW, tupleW, lenW, absW, intC, maxW, minW, idxW, addW, subW_e, modW_e, divW_e, powW_e, mulW, intW, lt_e, gt_e, le_e, ge_e, ltW, allW_e, anyW_e, sumW_e, lW, setW, lstAt, cutW, backW, isW, isiW, iLT_none, iLT_bool, iLT_int, iLT_str, iLT_list, iLT_tup, iL_none, iL_bool, iL_int, iL_str, iL_list, iL_tup, iT_none, iT_bool, iT_int, iT_str, iT_list, iT_tup, iS_none, iS_bool, iS_int, iS_str, iS_list, iS_tup, iI_none, iI_bool, iI_int, iI_str, iI_list, iI_tup, iB_none, iB_bool, iB_int, iB_str, iB_list, iB_tup, Bool.false_eq_true, reduceCtorEq, Bool.not_true, Bool.not_false, decide_true, decide_false, List.zip_cons_cons, List.zip_nil_left, List.foldl_cons, List.foldl_nil, and_self, and_true, true_and, Bool.and_true, Bool.true_and, Bool.or_true, Bool.true_or, *])
theorem folded4_ok {ns : List Int} {h : Hh} (hn : ns.length ≤ 63) : ∃ cs : List Int, m__law_folded [.scr ns, .dat (.int 4)] h = some (.dat (.list (cs.map .int)), h) ∧ 0 < cs.length ∧ cs.length ≤ 4 := by
  have eA : cutG ns none (some (4 : Int)) = ns.take 4 := cut_to ns (k := 4)
  have eB : cutG ns (some (4 : Int)) (some 63) = ns.drop 4 := by
    have e : HT.sIx ns.length 0 (some (4 : Int)) = min 4 ns.length := HT.sIx_nat ns.length 0 4
    have e0 : HT.sIx ns.length ns.length (some (63 : Int)) = min 63 ns.length := HT.sIx_nat ns.length ns.length 63
    unfold cutG
    rw [e, e0, Nat.min_eq_right hn]
    rcases Nat.le_total 4 ns.length with q | q
    · rw [Nat.min_eq_left q]
      exact List.take_of_length_le (by rw [List.length_drop]; omega)
    · rw [Nat.min_eq_right q, List.drop_eq_nil_of_le q]
      simp
  obtain ⟨ρ', g, e1, v3, v4, cs, rfl, i3, i4, rfl, hl⟩ := forL_end (k := gT 2 (gC (gN 3) (gC (gN 4) (gE)))) (body := foldBody) (fun _ ρ g => ∃ (v3 v4 : Option W) (cs : List Int), ρ = [some (.scr ns), some (.dat (.int 4)), some (.ref h.length), v3, v4] ∧ (∀ n, isR n v3 = false) ∧ (∀ n, isR n v4 = false) ∧ g = h ++ [some (.lst (cs.map .int))] ∧ cs.length = (ns.take 4).length)
    (ds := enumD 0 ((ns.drop 4).map .int)) (ρ := [some (.scr ns), some (.dat (.int 4)), some (.ref h.length), none, none]) (h := h ++ [some (.lst ((ns.take 4).map .int))]) ⟨none, none, ns.take 4, rfl, fun _ => rfl, fun _ => rfl, rfl, rfl⟩ (by
      intro j d ej ρ g hi
      obtain ⟨v3, v4, cs, rfl, i3, i4, rfl, hl⟩ := hi
      obtain ⟨v, hj, rfl⟩ := enum_int ej
      rw [List.length_drop] at hj
      have h3 : cs.length = 4 := by rw [hl, List.length_take]; omega
      have hk : j % 4 < cs.length := by omega
      have ek : (j : Int) % 4 = ((j % 4 : Nat) : Int) := by omega
      have et := fold_run (x := .scr ns) (p := h.length) (j := j % 4) (k := (j : Int)) (m := 4) (v := v) (a := cs[j % 4]) (cs := cs.map .int) (g := h ++ [some (.lst (cs.map .int))]) rfl (app_get rfl) (by rw [ek]; exact ints_at hk) (by rw [List.length_map, ek]; exact ixN_nat hk) (by omega) (by omega)
      rw [app_set rfl] at et
      refine ⟨_, _, _, ?_, et, some (.dat (.int (j : Int))), some (.dat (.int v)), cs.set (j % 4) (cs[j % 4] + v * ((j : Int) + 2)), rfl, fun _ => rfl, fun _ => rfl, ?_, by rw [List.length_set]; exact hl⟩
      · clear et hj h3 hk ek hl ej eA eB hn i3 i4
        walk_at "dl"
      · rw [List.map_set])
  by_cases z : cs = []
  · refine ⟨[0], ?_, by simp, by simp⟩
    rw [fold_end (z := false) i3 i4 eA eB e1 (by simp [z])]
    rfl
  · refine ⟨cs, ?_, List.length_pos_iff.mpr z, by rw [hl, List.length_take]; omega⟩
    rw [fold_end (z := true) i3 i4 eA eB e1 (by simp [z])]
    rfl
noncomputable def lawH (right : FM) : FM := fnM false 1 3 (sSeq (sAsg (fA (m__law_folded) (fCons (fVar 0) (fCons (fC (.int 4)) (fNil)))) (gN 1))
    (sRet (fA allW (fCons (fLc false (rng1I (fCons (fA lenW (fCons (fVar 1) (fNil))) (fNil))) (gN 2) (bYes) (fA right (fCons (fA (m__law_box) (fCons (fVar 1) (fCons (fVar 2) (fNil)))) (fNil))) [2]) (fNil)))))
theorem law_okH {h0 : Hh} (hk0 : h0.all noDM = true) {right : FM} (hr : ∀ (h : Hh) (b : Nat), JD h0 h → h0.length ≤ b → BoxAt h b 0 → ∃ h' c, right [.ref b] h = some (.dat (.bool true), h') ∧ BoxAt h' b c ∧ Only b h h') (ns : List Int) (hn : ns.length ≤ 63) :
    ∃ h', lawH right [.scr ns] h0 = some (.dat (.bool true), h') := by
  obtain ⟨cs, ec, c0, c3⟩ := folded4_ok (h := h0) hn
  obtain ⟨rs, h', e2, hl, hall, hp'⟩ := lcL_inv (k := gN 2) (f := fA right (fCons (fA (m__law_box) (fCons (fVar 1) (fCons (fVar 2) (fNil)))) (fNil))) (ρ := [some (.scr ns), some (.dat (.list (cs.map .int))), none])
    (fun n g => JD h0 g) (fun _ d => d = .bool true) (ds := rngD 0 cs.length) (n := 0) (h := h0) ⟨fun _ _ => rfl, Nat.le_refl _, hk0⟩ (by
      intro j d' ej g hp1
      obtain ⟨hj, rfl⟩ := rng_get ej
      obtain ⟨d, s, e, hd, hs, hs2⟩ := boxL_new (h := g) hj (by omega)
      have hb : BoxAt (g ++ [some (.lst [.int d, .int s, .int 0])]) g.length 0 := ⟨d, s, 0, by simp, hd, hs, hs2, by omega, by omega⟩
      have hp2 := hp1.app (o := some (.lst [.int d, .int s, .int 0])) (noDM_ints _ _ _)
      obtain ⟨g', c, e3, b3, o3⟩ := hr _ g.length hp2 hp1.len hb
      refine ⟨[some (.scr ns), some (.dat (.list (cs.map .int))), some (.dat (.int (j : Int)))], .bool true, g', rfl, ?_, rfl, hp2.only hp1.len o3 b3⟩
      clear hp1 hp2 ec hb hd hs hs2 b3 o3 hr ej hj
      walk_at "dl")
  have er : rs = List.replicate rs.length (.bool true) := bools_all fun r hr => by
    obtain ⟨j, hj, rfl⟩ := List.getElem_of_mem hr
    exact hall j _ (List.getElem?_eq_getElem hj)
  have hl' : rs.length = cs.length := by rw [hl, rng_len]
  rw [hl'] at er
  subst er
  have e4 := bools_true cs.length
  have e5 := all_true cs.length
  have e6 : (List.replicate cs.length (PyData.bool true)).length ≤ sizeLine := by rw [List.length_replicate, show sizeLine = 16777216 from rfl]; omega
  refine ⟨h0, ?_⟩
  obtain ⟨n, hn'⟩ : ∃ n : Int, ((cs.map PyData.int).length : Int) = n := ⟨_, rfl⟩
  have b0 : -1000000000 ≤ n := by omega
  have b1 : n ≤ 1000000000 := by rw [← hn', List.length_map]; omega
  have b2 : n.toNat = cs.length := by rw [← hn', List.length_map]; simp
  have lv : leave false h0 (.dat (.bool true)) h' = some (.dat (.bool true), h0) := by
    have e := hp'.pre.take hp'.len
    rw [leave_dat (by rw [e]), e]
  unfold lawH
  clear hr hp' c0 c3 hk0 hall hl hl'
  walk_at "dl"
end DL
set_option maxRecDepth 100000
namespace DL
open PySem L2
variable [HW]
noncomputable def m_all_pairs : FM := fnM false 1 3 (sRet (fLc2 false (seqI (fVar 0)) (gN 1) (bYes) 0 (gN 2) (fB (f2 (eqW true) (fVar 1) (fVar 2))) (fA tupW (fCons (fVar 1) (fCons (fVar 2) (fNil)))) [1, 2] [2]))
noncomputable def m_told_pairs : FM := fnM false 2 4 (sSeq (sAsg (fA (m_ways_back) (fCons (fVar 1) (fNil))) (gN 2))
    (sRet (fDcT (seqI (fA (m_all_pairs) (fCons (fVar 0) (fNil)))) (gN 3) (bYes) (fVar 3) (f2 idxW (fA (m_walked) (fCons (fVar 2) (fCons (fVar 3) (fNil)))) (fNeg (fC (.int 1)))) [3])))
noncomputable def m_Table___init__ (T : Nat → Addr) : FM := fnM false 3 4 (sSeq (sFor (seqI (fVar 2)) (gN 3)
    (sExpr (fA (m_look_alike) (fCons (fVar 1) (fCons (fA (m_people) (fCons (fVar 3) (fNil))) (fNil))))))
    (sSeq (sSetF (T 7) "own_names" (fVar 0) (fA tupleW (fCons (fA (sortW false) (fCons (fVar 1) (fNil))) (fNil))))
    (sSetF (T 7) "own_pairs" (fVar 0) (fA (m_told_pairs) (fCons (fFld (T 7) "own_names" (fVar 0)) (fCons (fVar 2) (fNil)))))))
noncomputable def m_Table_made (T : Nat → Addr) : FM := fnM false 2 3 (sSeq (sAsg (fMkM (T 7) (m_Table___init__ T) (fCons (fFld (T 7) "own_names" (fVar 0)) (fCons (fA (lstW false) (fNil)) (fNil)))) (gN 2))
    (sSeq (sSetF (T 7) "own_pairs" (fVar 2) (fVar 1))
    (sFrzI 2 (sRet (fVar 2)))))
end DL
set_option maxRecDepth 100000
set_option maxHeartbeats 400000
namespace DL
open PySem L2
variable [HW]
local macro_rules | `(tactic| walk_at "dl") => `(tactic| simp (config := { dsimp := false }) only [↓fnM_e, ↓sSeq_e, seqK_nx, seqK_rt, seqK_bk, seqK_ct, retK_rt, retK_nx, ↓sFrz_e, frK_some, ↓sAsg, ↓sRet, ↓sRetN, ↓sIf, ↓sExpr, ↓sSkip, ↓sNever, ↓sPar, ↓sFor, ↓sSub, ↓fVar, ↓fC, ↓fNil, ↓fCons, ↓fA, ↓f1, ↓f2, ↓fB, ↓fIf, ↓fNeg, ↓fNot, ↓fAnd, ↓fOr, ↓bNot, ↓bAnd, ↓bOr, ↓bYes, ↓obnd_x, ob_some, ↓sbnd_x, sb_some, ↓ite_x, iteK_t, iteK_f, gN, gT, gC, gE, ↓rng1I, ↓rng2I, ↓seqI, ↓enumA, ↓zipI, ↓strI, ↓fLc, ↓fDc, ↓fM, ↓fSl, ↓oNone, ↓oSome, ↓fRev, wipeE, ↓kwM, permM, permL, List.foldr, List.length_cons, List.length_nil, List.map_cons, List.map_nil, List.cons_append, List.nil_append, List.replicate, List.replicate_succ, List.replicate_zero, List.getElem?_cons_zero, List.getElem?_cons_succ, List.set_cons_zero, List.set_cons_succ, if_true, if_false, reduceIte, Nat.reduceAdd, Nat.reduceSub, Nat.reduceEqDiff, Nat.reduceLT, Nat.reduceLeDiff, Int.reduceLT, Int.reduceLE, Int.reduceNeg, Int.reduceMul, Int.reduceAdd, Int.reduceSub, Int.reduceToNat, Int.reducePow, Int.reduceEq, ok, bok, deref, mkL, lstW, tupW, dats, Option.map_some, appendW, insertW, setL, isL, listW, tupleW, lenW, absW, intC, maxW, minW, idxW, addW, subW_e, modW_e, divW_e, powW_e, mulW, intW, lt_e, gt_e, le_e, ge_e, ltW, allW_e, anyW_e, sumW_e, lW, setW, lstAt, cutW, backW, isW, isiW, iLT_none, iLT_bool, iLT_int, iLT_str, iLT_list, iLT_tup, iL_none, iL_bool, iL_int, iL_str, iL_list, iL_tup, iT_none, iT_bool, iT_int, iT_str, iT_list, iT_tup, iS_none, iS_bool, iS_int, iS_str, iS_list, iS_tup, iI_none, iI_bool, iI_int, iI_str, iI_list, iI_tup, iB_none, iB_bool, iB_int, iB_str, iB_list, iB_tup, Bool.false_eq_true, reduceCtorEq, Bool.not_true, Bool.not_false, decide_true, decide_false, List.zip_cons_cons, List.zip_nil_left, List.foldl_cons, List.foldl_nil, and_self, and_true, true_and, Bool.and_true, Bool.true_and, Bool.or_true, Bool.true_or, *])
def prsN (N : List Str) : List (Str × Str) := N.flatMap fun a => (N.filter fun b => !decide (a = b)).map fun b => (a, b)
theorem prsN_mem {N : List Str} {p : Str × Str} : p ∈ prsN N ↔ p.1 ∈ N ∧ p.2 ∈ N ∧ p.1 ≠ p.2 := by
  unfold prsN
  simp only [List.mem_flatMap, List.mem_map, List.mem_filter, Bool.not_eq_true', decide_eq_false_iff_not]
  constructor
  · rintro ⟨a, ha, b, ⟨hb, ne⟩, rfl⟩; exact ⟨ha, hb, ne⟩
  · rintro ⟨h1, h2, h3⟩; exact ⟨p.1, h1, p.2, ⟨h2, h3⟩, rfl⟩
theorem flat_nd {α β : Type} (f : α → List β) : ∀ {l : List α}, (∀ a ∈ l, (f a).Nodup) → l.Pairwise (fun a b => ∀ x ∈ f a, x ∉ f b) → (l.flatMap f).Nodup
  | [], _, _ => List.nodup_nil
  | a :: l, h1, h2 => by
    rw [List.flatMap_cons, List.nodup_append]
    obtain ⟨p, q⟩ := List.pairwise_cons.mp h2
    refine ⟨h1 a List.mem_cons_self, flat_nd f (fun b hb => h1 b (List.mem_cons_of_mem _ hb)) q, ?_⟩
    intro x hx y hy z
    subst z
    obtain ⟨b, hb, hxb⟩ := List.mem_flatMap.mp hy
    exact p b hb x hx hxb
theorem prsN_nodup {N : List Str} (nd : N.Nodup) : (prsN N).Nodup := by
  refine flat_nd _ (fun a _ => ?_) ?_
  · have : (N.filter fun b => !decide (a = b)).Nodup := nd.filter _
    rw [List.nodup_iff_pairwise_ne, List.pairwise_map]
    exact this.imp fun {b c} ne z => ne (by cases z; rfl)
  · refine List.Pairwise.imp ?_ nd
    intro a b ne x hx hy
    obtain ⟨_, _, rfl⟩ := List.mem_map.mp hx
    obtain ⟨_, _, e⟩ := List.mem_map.mp hy
    cases e
    exact ne rfl
theorem flat_le {α β : Type} (f : α → List β) {k : Nat} : ∀ {l : List α}, (∀ a ∈ l, (f a).length ≤ k) → (l.flatMap f).length ≤ l.length * k
  | [], _ => by simp
  | a :: l, h => by
    have h1 := h a List.mem_cons_self
    have h2 := flat_le f (l := l) fun b hb => h b (List.mem_cons_of_mem _ hb)
    rw [List.flatMap_cons, List.length_append, List.length_cons, Nat.succ_mul]
    omega
theorem prsN_len (N : List Str) : (prsN N).length ≤ N.length * N.length := flat_le _ fun a _ => by
  rw [List.length_map]; exact List.length_filter_le _ _
theorem prsN_small {N : List Str} (h : N.length ≤ 100) : (prsN N).length ≤ 10000 := Nat.le_trans (prsN_len N) (Nat.mul_le_mul h h)
theorem pairs_in {x : W} {a : Str} {h : Hh} : ∀ (M : List Str), lcL (gN 2) (fB (f2 (eqW true) (fVar 1) (fVar 2))) (fA tupW (fCons (fVar 1) (fCons (fVar 2) (fNil)))) [some x, some (.dat (.str a)), none] (M.map .str) h = some (((M.filter fun b => !decide (a = b)).map fun b => (a, b)).map prT, h) := by
  intro M
  have c2 : 2 ≤ sizeLine := by decide
  have e := lcL_map (k := gN 2) (t := fB (f2 (eqW true) (fVar 1) (fVar 2))) (f := fA tupW (fCons (fVar 1) (fCons (fVar 2) (fNil)))) (ρ := [some x, some (W.dat (.str a)), none]) (h := h) (fun d => !decide (a = unS d)) (fun d => prT (a, unS d)) (ds := M.map .str) (by
    intro d hd
    obtain ⟨s, hs, rfl⟩ := List.mem_map.mp hd
    have eq := eqW_strs (neg := true) (i := a) (j := s) (h := h)
    rw [if_pos rfl] at eq
    refine ⟨[some x, some (.dat (.str a)), some (.dat (.str s))], rfl, ?_, fun _ => ?_⟩
    · clear hs hd c2
      show fB (f2 (eqW true) (fVar 1) (fVar 2)) _ h = some (!decide (a = s), h)
      walk_at "dl"
    · clear hs hd eq
      show _ = some (W.dat (prT (a, s)), h)
      walk_at "dl")
  rw [e]
  congr 2
  clear e
  induction M with
  | nil => rfl
  | cons b M ih =>
    have q : unS (.str b) = b := rfl
    simp only [List.map_cons, List.filter_cons, q]
    split
    · rw [List.map_cons, List.map_cons, List.map_cons, ih]; rfl
    · exact ih
theorem pairs_out {x : D} {N : List Str} {h : Hh} (hx : IsSeq x (N.map .str)) : ∀ (M : List Str), lc2L (gN 1) (bYes) 0 (gN 2) (fB (f2 (eqW true) (fVar 1) (fVar 2))) (fA tupW (fCons (fVar 1) (fCons (fVar 2) (fNil)))) [2] [some (.dat x), none, none] (M.map .str) h = some ((M.flatMap fun a => (N.filter fun b => !decide (a = b)).map fun b => (a, b)).map prT, h)
  | [] => rfl
  | a :: M => by
    have ih := pairs_out hx (h := h) M
    have e := pairs_in (x := .dat x) (a := a) (h := h) N
    have dl : datL (some (some (.dat x))) = some (N.map .str) := by rcases hx with rfl | rfl <;> rfl
    rw [List.map_cons, List.flatMap_cons, List.map_append]
    unfold lc2L
    have es : (gN 1) (.dat (.str a)) [some (.dat x), none, none] h = some [some (.dat x), some (.dat (.str a)), none] := rfl
    have ew : wipeE [some (.dat x), some (.dat (.str a)), none] [2] = [some (.dat x), some (.dat (.str a)), none] := rfl
    simp only [es, bYes, obnd, if_true, List.getElem?_cons_zero, dl, ew, e, ih]
theorem all_pairs_ok {x : D} {N : List Str} {h : Hh} (hx : IsSeq x (N.map .str)) (hl : N.length ≤ 100) : m_all_pairs [.dat x] h = some (.dat (.list ((prsN N).map prT)), h) := by
  have e : lc2L (gN 1) (bYes) 0 (gN 2) (fB (f2 (eqW true) (fVar 1) (fVar 2))) (fA tupW (fCons (fVar 1) (fCons (fVar 2) (fNil)))) [2] [some (.dat x), none, none] (N.map .str) h = some ((prsN N).map prT, h) := pairs_out hx N
  have l1 : ((prsN N).map prT).length ≤ sizeLine := by rw [List.length_map]; exact Nat.le_trans (prsN_small hl) (by decide)
  have lv := leave_same' (h := h) (d := .list ((prsN N).map prT))
  have si : seqI (fVar 0) [some (.dat x), none, none] h = some (N.map .str, h) := by rcases hx with rfl | rfl <;> rfl
  have fl : fLc2 false (seqI (fVar 0)) (gN 1) (bYes) 0 (gN 2) (fB (f2 (eqW true) (fVar 1) (fVar 2))) (fA tupW (fCons (fVar 1) (fCons (fVar 2) (fNil)))) [1, 2] [2] [some (.dat x), none, none] h = some (.dat (.list ((prsN N).map prT)), h) := by
    unfold fLc2
    rw [si]
    show obnd (lc2L _ _ _ _ _ _ _ [some (.dat x), none, none] _ h) _ = _
    rw [e]
    simp only [obnd]
    rw [if_pos l1]; rfl
  unfold m_all_pairs
  clear hx hl e l1 si
  walk_at "dl"
def tblD (ps : List (Str × Str)) (f : Str × Str → Str × Str) : List (D × D) := ps.map fun p => (prT p, prT (f p))
abbrev tabD (N : List Str) (f : Str × Str → Str × Str) : D := .dict ((.none, .none) :: tblD (prsN N) f)
abbrev pK (p : Str × Str) : List Key := [.inr p.1, .inr p.2]
theorem tKey_prT (p : Str × Str) : tKey (prT p) = some (pK p) := rfl
theorem pK_inj {p q : Str × Str} (e : pK p = pK q) : p = q := by
  obtain ⟨a, b⟩ := p; obtain ⟨c, d⟩ := q
  simp only [pK, List.cons.injEq, Sum.inr.injEq, and_true] at e
  rw [e.1, e.2]
theorem getT_out {f : Str × Str → Str × Str} {p : Str × Str} : ∀ {ps : List (Str × Str)}, p ∉ ps → getT (tblD ps f) (pK p) = none
  | [], _ => rfl
  | q :: ps, h => by
    show ((List.find? _ ((prT q, prT (f q)) :: tblD ps f)).map _) = _
    rw [List.find?_cons]
    have z' : decide (tKey (prT q) = some (pK p)) = false := by
      rw [tKey_prT]
      simp only [Option.some.injEq, decide_eq_false_iff_not]
      intro w
      exact h (by rw [pK_inj w]; exact List.mem_cons_self)
    rw [z']
    exact getT_out (ps := ps) fun w => h (List.mem_cons_of_mem _ w)
theorem dcTL_tab {k : TM} {fk fv : EM} {ρ : Env} {h : Hh} {f : Str × Str → Str × Str} : ∀ {ps qs : List (Str × Str)}, (qs ++ ps).Nodup → (qs ++ ps).length ≤ 10000 →
    (∀ p ∈ ps, ∃ ρ1, k (.dat (prT p)) ρ h = some ρ1 ∧ fk ρ1 h = some (.dat (prT p), h) ∧ fv ρ1 h = some (.dat (prT (f p)), h)) → dcTL k bYes fk fv ρ (ps.map prT) (tblD qs f) h = some (tblD (qs ++ ps) f, h)
  | [], qs, _, _, _ => by rw [List.append_nil]; rfl
  | p :: ps, qs, nd, hl, H => by
    obtain ⟨ρ1, e1, e2, e3⟩ := H p List.mem_cons_self
    have np : p ∉ qs := fun z => by
      have := (List.nodup_append.mp nd).2.2 p z p List.mem_cons_self
      exact this rfl
    have hz : sizeLine = 16777216 := rfl
    have hq : (tblD qs f).length < sizeLine := by
      unfold tblD; rw [List.length_map]; rw [List.length_append] at hl; omega
    have ep : putT (tblD qs f) (pK p) (prT (f p)) = tblD (qs ++ [p]) f := by
      unfold putT
      rw [getT_out np]
      simp only [Option.isSome_none, Bool.false_eq_true, if_false]
      unfold tblD
      rw [List.map_append]; rfl
    have ih := dcTL_tab (k := k) (fk := fk) (fv := fv) (ρ := ρ) (h := h) (f := f) (ps := ps) (qs := qs ++ [p]) (by rw [List.append_assoc]; exact nd) (by rw [List.append_assoc]; exact hl) fun q hq => H q (List.mem_cons_of_mem _ hq)
    rw [List.append_assoc] at ih
    rw [List.map_cons]
    unfold dcTL
    simp only [e1, bYes, obnd, if_true, e2, e3]
    have ed : dKeys [PyData.str p.1, PyData.str p.2] = some (pK p) := rfl
    have ec : pairD [PyData.str p.1, PyData.str p.2] = false := rfl
    simp only [ed]
    rw [if_pos ⟨hq, ec⟩, ep]
    exact ih
theorem dcT_tab {gi : IM} {k : TM} {fk fv : EM} {vs : List Nat} {ρ : Env} {h : Hh} {N : List Str} {f : Str × Str → Str × Str} (nd : N.Nodup) (hl : N.length ≤ 100) (eg : gi ρ h = some ((prsN N).map prT, h))
    (H : ∀ p ∈ prsN N, ∃ ρ1, k (.dat (prT p)) (wipeE ρ vs) h = some ρ1 ∧ fk ρ1 h = some (.dat (prT p), h) ∧ fv ρ1 h = some (.dat (prT (f p)), h)) : fDcT gi k bYes fk fv vs ρ h = some (.dat (tabD N f), h) := by
  have e := dcTL_tab (k := k) (fk := fk) (fv := fv) (ρ := wipeE ρ vs) (h := h) (f := f) (ps := prsN N) (qs := []) (by rw [List.nil_append]; exact prsN_nodup nd) (by rw [List.nil_append]; exact prsN_small hl) H
  rw [List.nil_append] at e
  have e' : dcTL k bYes fk fv (wipeE ρ vs) ((prsN N).map prT) [] h = some (tblD (prsN N) f, h) := e
  unfold fDcT
  rw [eg]
  simp only [obnd]
  rw [e']
theorem Words.rev {r : List Str} {ws : List (List (Str × Str))} (c : Words r ws) : Words r ws.reverse := fun p hp => c p (List.mem_reverse.mp hp)
theorem told_pairs_ok {y : D} {l : Bool} {N : List Str} {ws : List (List (Str × Str))} {h : Hh} (hy : IsSeq y (ws.map (cD l))) (c : Words N ws) (nd : N.Nodup) (hl : N.length ≤ 100) (hw : ws.length ≤ 1000) :
    m_told_pairs [.dat (rowT N), .dat y] h = some (.dat (tabD N (lastW ws.reverse)), h) := by
  have e1 := ways_ok (h := h) hy c nd (by omega) hw
  have e2 := all_pairs_ok (x := rowT N) (N := N) (h := h) (.inr rfl) hl
  have e3 : fDcT (seqI (fA (m_all_pairs) (fCons (fVar 0) (fNil)))) (gN 3) (bYes) (fVar 3) (f2 idxW (fA (m_walked) (fCons (fVar 2) (fCons (fVar 3) (fNil)))) (fNeg (fC (.int 1)))) [3] [some (.dat (rowT N)), some (.dat y), some (.dat (.list (ws.reverse.map dW))), none] h = some (.dat (tabD N (lastW ws.reverse)), h) := by
    refine dcT_tab nd hl ?_ fun p hp => ?_
    · clear e1 hy c nd hl hw
      walk_at "dl"
    · obtain ⟨h1, h2, h3⟩ := prsN_mem.mp hp
      have e4 := walked_ok (h := h) (ws := ws.reverse) (p := p) c.rev h1 h2 (by rw [List.length_reverse]; exact hw)
      obtain ⟨wl, el⟩ := walkL_last ws.reverse p
      have al : L2.atI ((walkL ws.reverse p).map prT) (-1) = some (prT (lastW ws.reverse p)) := by rw [el, List.map_append]; exact atI_neg1 _ _
      refine ⟨[some (.dat (rowT N)), some (.dat y), some (.dat (.list (ws.reverse.map dW))), some (.dat (prT p))], rfl, rfl, ?_⟩
      clear e1 e2 hy c nd hl hw hp h1 h2 h3 el
      walk_at "dl"
  have lv := leave_same' (h := h) (d := tabD N (lastW ws.reverse))
  unfold m_told_pairs
  clear hy c nd hl hw e2
  walk_at "dl"
end DL
set_option maxRecDepth 100000
set_option maxHeartbeats 400000
namespace DL
open PySem L2
variable [HW]
local macro_rules | `(tactic| walk_at "dl") => `(tactic| simp (config := { dsimp := false }) only [↓fnM_e, ↓sSeq_e, seqK_nx, seqK_rt, seqK_bk, seqK_ct, retK_rt, retK_nx, ↓sFrz_e, frK_some, ↓sAsg, ↓sRet, ↓sRetN, ↓sIf, ↓sExpr, ↓sSkip, ↓sNever, ↓sPar, ↓sFor, ↓sSub, ↓fVar, ↓fC, ↓fNil, ↓fCons, ↓fA, ↓f1, ↓f2, ↓fB, ↓fIf, ↓fNeg, ↓fNot, ↓fAnd, ↓fOr, ↓bNot, ↓bAnd, ↓bOr, ↓bYes, ↓obnd_x, ob_some, ↓sbnd_x, sb_some, ↓ite_x, iteK_t, iteK_f, gN, gT, gC, gE, ↓rng1I, ↓rng2I, ↓seqI, ↓enumA, ↓zipI, ↓strI, ↓fLc, ↓fDc, ↓fM, ↓fSl, ↓oNone, ↓oSome, ↓fRev, wipeE, ↓kwM, permM, permL, List.foldr, List.length_cons, List.length_nil, List.map_cons, List.map_nil, List.cons_append, List.nil_append, List.replicate, List.replicate_succ, List.replicate_zero, List.getElem?_cons_zero, List.getElem?_cons_succ, List.set_cons_zero, List.set_cons_succ, if_true, if_false, reduceIte, Nat.reduceAdd, Nat.reduceSub, Nat.reduceEqDiff, Nat.reduceLT, Nat.reduceLeDiff, Int.reduceLT, Int.reduceLE, Int.reduceNeg, Int.reduceMul, Int.reduceAdd, Int.reduceSub, Int.reduceToNat, Int.reducePow, Int.reduceEq, ok, bok, deref, mkL, lstW, tupW, dats, Option.map_some, appendW, insertW, setL, isL, listW, tupleW, lenW, absW, intC, maxW, minW, idxW, addW, subW_e, modW_e, divW_e, powW_e, mulW, intW, lt_e, gt_e, le_e, ge_e, ltW, allW_e, anyW_e, sumW_e, lW, setW, lstAt, cutW, backW, isW, isiW, iLT_none, iLT_bool, iLT_int, iLT_str, iLT_list, iLT_tup, iL_none, iL_bool, iL_int, iL_str, iL_list, iL_tup, iT_none, iT_bool, iT_int, iT_str, iT_list, iT_tup, iS_none, iS_bool, iS_int, iS_str, iS_list, iS_tup, iI_none, iI_bool, iI_int, iI_str, iI_list, iI_tup, iB_none, iB_bool, iB_int, iB_str, iB_list, iB_tup, Bool.false_eq_true, reduceCtorEq, Bool.not_true, Bool.not_false, decide_true, decide_false, List.zip_cons_cons, List.zip_nil_left, List.foldl_cons, List.foldl_nil, and_self, and_true, true_and, Bool.and_true, Bool.true_and, Bool.or_true, Bool.true_or, *])
end DL
set_option maxRecDepth 100000
set_option maxHeartbeats 400000
namespace DL
open PySem L2
variable [HW]
local macro_rules | `(tactic| walk_at "dl") => `(tactic| simp (config := { dsimp := false }) only [↓fnM_e, ↓sSeq_e, seqK_nx, seqK_rt, seqK_bk, seqK_ct, retK_rt, retK_nx, ↓sFrz_e, frK_some, ↓sAsg, ↓sRet, ↓sRetN, ↓sIf, ↓sExpr, ↓sSkip, ↓sNever, ↓sPar, ↓sFor, ↓sSub, ↓fVar, ↓fC, ↓fNil, ↓fCons, ↓fA, ↓f1, ↓f2, ↓fB, ↓fIf, ↓fNeg, ↓fNot, ↓fAnd, ↓fOr, ↓bNot, ↓bAnd, ↓bOr, ↓bYes, ↓obnd_x, ob_some, ↓sbnd_x, sb_some, ↓ite_x, iteK_t, iteK_f, gN, gT, gC, gE, ↓rng1I, ↓rng2I, ↓seqI, ↓enumA, ↓zipI, ↓strI, ↓fLc, ↓fDc, ↓fM, ↓fSl, ↓oNone, ↓oSome, ↓fRev, wipeE, ↓kwM, permM, permL, List.foldr, List.length_cons, List.length_nil, List.map_cons, List.map_nil, List.cons_append, List.nil_append, List.replicate, List.replicate_succ, List.replicate_zero, List.getElem?_cons_zero, List.getElem?_cons_succ, List.set_cons_zero, List.set_cons_succ, if_true, if_false, reduceIte, Nat.reduceAdd, Nat.reduceSub, Nat.reduceEqDiff, Nat.reduceLT, Nat.reduceLeDiff, Int.reduceLT, Int.reduceLE, Int.reduceNeg, Int.reduceMul, Int.reduceAdd, Int.reduceSub, Int.reduceToNat, Int.reducePow, Int.reduceEq, ok, bok, deref, mkL, lstW, tupW, dats, Option.map_some, appendW, insertW, setL, isL, listW, tupleW, lenW, absW, intC, maxW, minW, idxW, addW, subW_e, modW_e, divW_e, powW_e, mulW, intW, lt_e, gt_e, le_e, ge_e, ltW, allW_e, anyW_e, sumW_e, lW, setW, lstAt, cutW, backW, isW, isiW, iLT_none, iLT_bool, iLT_int, iLT_str, iLT_list, iLT_tup, iL_none, iL_bool, iL_int, iL_str, iL_list, iL_tup, iT_none, iT_bool, iT_int, iT_str, iT_list, iT_tup, iS_none, iS_bool, iS_int, iS_str, iS_list, iS_tup, iI_none, iI_bool, iI_int, iI_str, iI_list, iI_tup, iB_none, iB_bool, iB_int, iB_str, iB_list, iB_tup, Bool.false_eq_true, reduceCtorEq, Bool.not_true, Bool.not_false, decide_true, decide_false, List.zip_cons_cons, List.zip_nil_left, List.foldl_cons, List.foldl_nil, and_self, and_true, true_and, Bool.and_true, Bool.true_and, Bool.or_true, Bool.true_or, *])
end DL
set_option maxRecDepth 100000
set_option maxHeartbeats 400000
namespace DL
open PySem L2
variable [HW]
local macro_rules | `(tactic| walk_at "dl") => `(tactic| simp (config := { dsimp := false }) only [↓fnM_e, ↓sSeq_e, seqK_nx, seqK_rt, seqK_bk, seqK_ct, retK_rt, retK_nx, ↓sFrz_e, frK_some, ↓sAsg, ↓sRet, ↓sRetN, ↓sIf, ↓sExpr, ↓sSkip, ↓sNever, ↓sPar, ↓sFor, ↓sSub, ↓fVar, ↓fC, ↓fNil, ↓fCons, ↓fA, ↓f1, ↓f2, ↓fB, ↓fIf, ↓fNeg, ↓fNot, ↓fAnd, ↓fOr, ↓bNot, ↓bAnd, ↓bOr, ↓bYes, ↓obnd_x, ob_some, ↓sbnd_x, sb_some, ↓ite_x, iteK_t, iteK_f, gN, gT, gC, gE, ↓rng1I, ↓rng2I, ↓seqI, ↓enumA, ↓zipI, ↓strI, ↓fLc, ↓fDc, ↓fM, ↓fSl, ↓oNone, ↓oSome, ↓fRev, wipeE, ↓kwM, permM, permL, List.foldr, List.length_cons, List.length_nil, List.map_cons, List.map_nil, List.cons_append, List.nil_append, List.replicate, List.replicate_succ, List.replicate_zero, List.getElem?_cons_zero, List.getElem?_cons_succ, List.set_cons_zero, List.set_cons_succ, if_true, if_false, reduceIte, Nat.reduceAdd, Nat.reduceSub, Nat.reduceEqDiff, Nat.reduceLT, Nat.reduceLeDiff, Int.reduceLT, Int.reduceLE, Int.reduceNeg, Int.reduceMul, Int.reduceAdd, Int.reduceSub, Int.reduceToNat, Int.reducePow, Int.reduceEq, ok, bok, deref, mkL, lstW, tupW, dats, Option.map_some, appendW, insertW, setL, isL, listW, tupleW, lenW, absW, intC, maxW, minW, idxW, addW, subW_e, modW_e, divW_e, powW_e, mulW, intW, lt_e, gt_e, le_e, ge_e, ltW, allW_e, anyW_e, sumW_e, lW, setW, lstAt, cutW, backW, isW, isiW, iLT_none, iLT_bool, iLT_int, iLT_str, iLT_list, iLT_tup, iL_none, iL_bool, iL_int, iL_str, iL_list, iL_tup, iT_none, iT_bool, iT_int, iT_str, iT_list, iT_tup, iS_none, iS_bool, iS_int, iS_str, iS_list, iS_tup, iI_none, iI_bool, iI_int, iI_str, iI_list, iI_tup, iB_none, iB_bool, iB_int, iB_str, iB_list, iB_tup, Bool.false_eq_true, reduceCtorEq, Bool.not_true, Bool.not_false, decide_true, decide_false, List.zip_cons_cons, List.zip_nil_left, List.foldl_cons, List.foldl_nil, and_self, and_true, true_and, Bool.and_true, Bool.true_and, Bool.or_true, Bool.true_or, *])
def fldK (C : Addr) (f : Str) (w : W) (h1 : Hh) : Option (W × Hh) := match insD C w h1 with
  | some fs => match fs.lookup f with
    | some d => some (.dat d, h1)
    | none => none
  | none => none
theorem fFld_e (C : Addr) (f : Str) (g : EM) (ρ : DL.Env) (h : Hh) : fFld C f g ρ h = ob (fldK C f) () (g ρ h) := rfl
def metK (C : Addr) (m : Str) (mm : FM) (ga : AM) (ρ : DL.Env) (w : W) (h1 : Hh) : Option (W × Hh) := match insF C w h1 with
  | some fs => match fs.lookup m with
    | some _ => none
    | none => ob (fun ws h2 => mm (w :: ws) h2) () (ga ρ h1)
  | none => none
theorem fMeth_e (C : Addr) (m : Str) (mm : FM) (go : EM) (ga : AM) (ρ : DL.Env) (h : Hh) : fMeth C m mm go ga ρ h = ob (metK C m mm ga ρ) () (go ρ h) := rfl
def mkT (C : Addr) (mi : FM) (ws : List W) (h1 : Hh) : Option (W × Hh) := match mi (.ref h1.length :: ws) (h1 ++ [some (.ins C [])]) with
  | some (.dat .none, h2) => match h2[h1.length]? with
    | some (some (.ins C' fs)) => if C' = C then some (.ins C fs, h2.set h1.length none) else none
    | _ => none
  | _ => none
theorem fMk_e (C : Addr) (mi : FM) (ga : AM) (ρ : DL.Env) (h : Hh) : fMk C mi ga ρ h = ob (mkT C mi) () (ga ρ h) := rfl
abbrev tbI (C : Addr) (N : List Str) (f : Str × Str → Str × Str) : W := .ins C [("own_names", rowT N), ("own_pairs", tabD N f)]
theorem fld_n {C : Addr} {a b : D} {h : Hh} : fldK C "own_names" (.ins C [("own_names", a), ("own_pairs", b)]) h = some (.dat a, h) := by
  simp only [fldK, insD, if_true]; rfl
theorem fld_p {C : Addr} {a b : D} {h : Hh} : fldK C "own_pairs" (.ins C [("own_names", a), ("own_pairs", b)]) h = some (.dat b, h) := by
  simp only [fldK, insD, if_true]; rfl
theorem met_t {C : Addr} {m : Str} {mm : FM} {ga : AM} {ρ : DL.Env} {a b : D} {h : Hh} (hm : List.lookup m [(("own_names" : Str), a), ("own_pairs", b)] = none) : metK C m mm ga ρ (.ins C [("own_names", a), ("own_pairs", b)]) h = ob (fun ws h2 => mm (.ins C [("own_names", a), ("own_pairs", b)] :: ws) h2) () (ga ρ h) := by
  simp only [metK, insF, if_true, hm]
theorem met_leads {C : Addr} {mm : FM} {ga : AM} {ρ : DL.Env} {a b : D} {h : Hh} : metK C "leads" mm ga ρ (.ins C [("own_names", a), ("own_pairs", b)]) h = ob (fun ws h2 => mm (.ins C [("own_names", a), ("own_pairs", b)] :: ws) h2) () (ga ρ h) := met_t rfl
theorem met_then {C : Addr} {mm : FM} {ga : AM} {ρ : DL.Env} {a b : D} {h : Hh} : metK C "then" mm ga ρ (.ins C [("own_names", a), ("own_pairs", b)]) h = ob (fun ws h2 => mm (.ins C [("own_names", a), ("own_pairs", b)] :: ws) h2) () (ga ρ h) := met_t rfl
theorem met_times {C : Addr} {mm : FM} {ga : AM} {ρ : DL.Env} {a b : D} {h : Hh} : metK C "times" mm ga ρ (.ins C [("own_names", a), ("own_pairs", b)]) h = ob (fun ws h2 => mm (.ins C [("own_names", a), ("own_pairs", b)] :: ws) h2) () (ga ρ h) := met_t rfl
theorem met_made {C : Addr} {mm : FM} {ga : AM} {ρ : DL.Env} {a b : D} {h : Hh} : metK C "made" mm ga ρ (.ins C [("own_names", a), ("own_pairs", b)]) h = ob (fun ws h2 => mm (.ins C [("own_names", a), ("own_pairs", b)] :: ws) h2) () (ga ρ h) := met_t rfl
theorem met_tells {C : Addr} {mm : FM} {ga : AM} {ρ : DL.Env} {a b : D} {h : Hh} : metK C "tells" mm ga ρ (.ins C [("own_names", a), ("own_pairs", b)]) h = ob (fun ws h2 => mm (.ins C [("own_names", a), ("own_pairs", b)] :: ws) h2) () (ga ρ h) := met_t rfl
theorem met_names {C : Addr} {mm : FM} {ga : AM} {ρ : DL.Env} {a b : D} {h : Hh} : metK C "names" mm ga ρ (.ins C [("own_names", a), ("own_pairs", b)]) h = ob (fun ws h2 => mm (.ins C [("own_names", a), ("own_pairs", b)] :: ws) h2) () (ga ρ h) := met_t rfl
end DL
set_option maxRecDepth 100000
set_option maxHeartbeats 400000
namespace DL
open PySem L2
variable [HW]
local macro_rules | `(tactic| walk_at "dl") => `(tactic| simp (config := { dsimp := false }) only [↓fnM_e, ↓sSeq_e, seqK_nx, seqK_rt, seqK_bk, seqK_ct, retK_rt, retK_nx, ↓sFrz_e, frK_some, ↓sAsg, ↓sRet, ↓sRetN, ↓sIf, ↓sExpr, ↓sSkip, ↓sNever, ↓sPar, ↓sFor, ↓sSub, ↓fVar, ↓fC, ↓fNil, ↓fCons, ↓fA, ↓f1, ↓f2, ↓fB, ↓fIf, ↓fNeg, ↓fNot, ↓fAnd, ↓fOr, ↓bNot, ↓bAnd, ↓bOr, ↓bYes, ↓obnd_x, ob_some, ↓sbnd_x, sb_some, ↓ite_x, iteK_t, iteK_f, gN, gT, gC, gE, ↓rng1I, ↓rng2I, ↓seqI, ↓enumA, ↓zipI, ↓strI, ↓fLc, ↓fDc, ↓fM, ↓fSl, ↓oNone, ↓oSome, ↓fRev, wipeE, ↓kwM, permM, permL, List.foldr, List.length_cons, List.length_nil, List.map_cons, List.map_nil, List.cons_append, List.nil_append, List.replicate, List.replicate_succ, List.replicate_zero, List.getElem?_cons_zero, List.getElem?_cons_succ, List.set_cons_zero, List.set_cons_succ, if_true, if_false, reduceIte, Nat.reduceAdd, Nat.reduceSub, Nat.reduceEqDiff, Nat.reduceLT, Nat.reduceLeDiff, Int.reduceLT, Int.reduceLE, Int.reduceNeg, Int.reduceMul, Int.reduceAdd, Int.reduceSub, Int.reduceToNat, Int.reducePow, Int.reduceEq, ok, bok, deref, mkL, lstW, tupW, dats, Option.map_some, appendW, insertW, setL, isL, listW, tupleW, lenW, absW, intC, maxW, minW, idxW, addW, subW_e, modW_e, divW_e, powW_e, mulW, intW, lt_e, gt_e, le_e, ge_e, ltW, allW_e, anyW_e, sumW_e, lW, setW, lstAt, cutW, backW, isW, isiW, iLT_none, iLT_bool, iLT_int, iLT_str, iLT_list, iLT_tup, iL_none, iL_bool, iL_int, iL_str, iL_list, iL_tup, iT_none, iT_bool, iT_int, iT_str, iT_list, iT_tup, iS_none, iS_bool, iS_int, iS_str, iS_list, iS_tup, iI_none, iI_bool, iI_int, iI_str, iI_list, iI_tup, iB_none, iB_bool, iB_int, iB_str, iB_list, iB_tup, Bool.false_eq_true, reduceCtorEq, Bool.not_true, Bool.not_false, decide_true, decide_false, List.zip_cons_cons, List.zip_nil_left, List.foldl_cons, List.foldl_nil, and_self, and_true, true_and, Bool.and_true, Bool.true_and, Bool.or_true, Bool.true_or, *])
local macro_rules | `(tactic| walk_at "tb") => `(tactic| simp (config := { dsimp := false }) only [↓fFld_e, ↓fMeth_e, ↓fMk_e, fld_n, fld_p, met_leads, met_then, met_times, met_made, met_tells, met_names, ↓fnM_e, ↓sSeq_e, seqK_nx, seqK_rt, seqK_bk, seqK_ct, retK_rt, retK_nx, ↓sFrz_e, frK_some, ↓sAsg, ↓sRet, ↓sRetN, ↓sIf, ↓sExpr, ↓sSkip, ↓sNever, ↓sPar, ↓sFor, ↓sSub, ↓fVar, ↓fC, ↓fNil, ↓fCons, ↓fA, ↓f1, ↓f2, ↓fB, ↓fIf, ↓fNeg, ↓fNot, ↓fAnd, ↓fOr, ↓bNot, ↓bAnd, ↓bOr, ↓bYes, ↓obnd_x, ob_some, ↓sbnd_x, sb_some, ↓ite_x, iteK_t, iteK_f, gN, gT, gC, gE, ↓rng1I, ↓rng2I, ↓seqI, ↓enumA, ↓zipI, ↓strI, ↓fLc, ↓fDc, ↓fM, ↓fSl, ↓oNone, ↓oSome, ↓fRev, wipeE, ↓kwM, permM, permL, List.foldr, List.length_cons, List.length_nil, List.map_cons, List.map_nil, List.cons_append, List.nil_append, List.replicate, List.replicate_succ, List.replicate_zero, List.getElem?_cons_zero, List.getElem?_cons_succ, List.set_cons_zero, List.set_cons_succ, if_true, if_false, reduceIte, Nat.reduceAdd, Nat.reduceSub, Nat.reduceEqDiff, Nat.reduceLT, Nat.reduceLeDiff, Int.reduceLT, Int.reduceLE, Int.reduceNeg, Int.reduceMul, Int.reduceAdd, Int.reduceSub, Int.reduceToNat, Int.reducePow, Int.reduceEq, ok, bok, deref, mkL, lstW, tupW, dats, Option.map_some, appendW, insertW, setL, isL, listW, tupleW, lenW, absW, intC, maxW, minW, idxW, addW, subW_e, modW_e, divW_e, powW_e, mulW, intW, lt_e, gt_e, le_e, ge_e, ltW, allW_e, anyW_e, sumW_e, lW, setW, lstAt, cutW, backW, isW, isiW, iLT_none, iLT_bool, iLT_int, iLT_str, iLT_list, iLT_tup, iL_none, iL_bool, iL_int, iL_str, iL_list, iL_tup, iT_none, iT_bool, iT_int, iT_str, iT_list, iT_tup, iS_none, iS_bool, iS_int, iS_str, iS_list, iS_tup, iI_none, iI_bool, iI_int, iI_str, iI_list, iI_tup, iB_none, iB_bool, iB_int, iB_str, iB_list, iB_tup, Bool.false_eq_true, reduceCtorEq, Bool.not_true, Bool.not_false, decide_true, decide_false, List.zip_cons_cons, List.zip_nil_left, List.foldl_cons, List.foldl_nil, and_self, and_true, true_and, Bool.and_true, Bool.true_and, Bool.or_true, Bool.true_or, *])
theorem setF_run {C : Addr} {f : Str} {go gv : EM} {ρ : DL.Env} {h h1 : Hh} {n : Nat} {d : D} {fs fs' : List (Str × D)} (e1 : gv ρ h = some (.dat d, h1)) (e2 : go ρ h1 = some (.ref n, h1)) (e3 : h1[n]? = some (some (.ins C fs))) (hl : fs.length < 100) (ef : putE f d fs = fs') :
    sSetF C f go gv ρ h = some (.nx ρ, h1.set n (some (.ins C fs'))) := by
  subst ef
  unfold sSetF
  simp only [e1, sbnd, e2, e3, hl, and_self, if_true]
noncomputable def iniBody : SM := sExpr (fA (m_look_alike) (fCons (fVar 1) (fCons (fA (m_people) (fCons (fVar 3) (fNil))) (fNil))))
theorem ini_turn {w v : W} {x y : D} {A : List Str} {g : Hh} (e1 : m_people [.dat y] g = some (.dat (.tuple (A.map .str)), g)) (e2 : m_look_alike [.dat x, .dat (.tuple (A.map .str))] g = some (.dat .none, g)) :
    iniBody [some w, some (.dat x), some v, some (.dat y)] g = some (.nx [some w, some (.dat x), some v, some (.dat y)], g) := by
  unfold iniBody
  walk_at "dl"
theorem init_ok {C : Addr} {T : Nat → Addr} {x y : D} {lb : Bool} {l : List Str} {ws : List (List (Str × Str))} {h : Hh} (hC : T 7 = C) (hx : IsSeq x (l.map .str)) (hy : IsSeq y (ws.map (cD lb))) (c : Words l ws) (nd : l.Nodup) (hl : l.length ≤ 100) (ht : Txts l) (hw : ws.length ≤ 1000) :
    m_Table___init__ T [.ref h.length, .dat x, .dat y] (h ++ [some (.ins C [])]) = some (.dat .none, h ++ [some (.ins C [("own_names", rowT (sortS l)), ("own_pairs", tabD (sortS l) (lastW ws.reverse))])]) := by
  subst hC
  have pS := sortS_perm l
  have key := forL_end (k := gN 3) (body := iniBody) (fun n ρ g => g = h ++ [some (.ins (T 7) [])] ∧ ∃ v3 : Option W, ρ = [some (.ref h.length), some (.dat x), some (.dat y), v3])
    (ds := ws.map (cD lb)) (ρ := [some (.ref h.length), some (.dat x), some (.dat y), none]) (h := h ++ [some (.ins (T 7) [])]) ⟨rfl, none, rfl⟩ (by
      intro j d ej ρ g hi
      obtain ⟨rfl, v3, rfl⟩ := hi
      rw [List.getElem?_map] at ej
      obtain ⟨ps, ep, rfl⟩ := Option.map_eq_some_iff.mp ej
      have hc : CallOf l ps := c ps (List.mem_of_getElem? ep)
      have lp : ps.length ≤ 1000 := by have := hc.perm.length_eq; rw [List.length_map] at this; omega
      have e1 := people_ok (h := h ++ [some (.ins (T 7) [])]) (cD_seq lb ps) lp
      have e2 := look_alike_ok (h := h ++ [some (.ins (T 7) [])]) hx (y := .tuple ((ps.map (·.1)).map .str)) (.inr rfl) hc.perm.symm ht
      exact ⟨_, _, _, rfl, ini_turn (w := .ref h.length) (v := .dat y) e1 e2, rfl, some (.dat (cD lb ps)), rfl⟩)
  obtain ⟨ρ', g', e, rfl, v3, rfl⟩ := key
  have es := sortW_strs (h := h ++ [some (.ins (T 7) [])]) hx ht
  have et : fA tupleW (fCons (fA (sortW false) (fCons (fVar 1) (fNil))) (fNil)) [some (.ref h.length), some (.dat x), some (.dat y), v3] (h ++ [some (.ins (T 7) [])]) = some (.dat (rowT (sortS l)), h ++ [some (.ins (T 7) [])]) := by
    clear e hx hy
    walk_at "dl"
  have s1 := setF_run (C := T 7) (f := "own_names") (go := fVar 0) (fs := []) (fs' := [("own_names", rowT (sortS l))]) et rfl (app_get rfl) (by simp) rfl
  rw [app_set rfl] at s1
  have e3 := told_pairs_ok (h := h ++ [some (.ins (T 7) [("own_names", rowT (sortS l))])]) hy (c.perm pS.symm) (pS.nodup_iff.mpr nd) (by rw [pS.length_eq]; exact hl) hw
  have ef : fldK (T 7) "own_names" (.ref h.length) (h ++ [some (.ins (T 7) [("own_names", rowT (sortS l))])]) = some (.dat (rowT (sortS l)), h ++ [some (.ins (T 7) [("own_names", rowT (sortS l))])]) := by
    have hg : (h ++ [some (MO.ins (T 7) [(("own_names" : Str), rowT (sortS l))])])[h.length]? = some (some (.ins (T 7) [("own_names", rowT (sortS l))])) := app_get rfl
    simp only [fldK, insD, hg, if_true]
    rfl
  have eu : fA (m_told_pairs) (fCons (fFld (T 7) "own_names" (fVar 0)) (fCons (fVar 2) (fNil))) [some (.ref h.length), some (.dat x), some (.dat y), v3] (h ++ [some (.ins (T 7) [("own_names", rowT (sortS l))])]) = some (.dat (tabD (sortS l) (lastW ws.reverse)), h ++ [some (.ins (T 7) [("own_names", rowT (sortS l))])]) := by
    clear e hx hy es et s1
    walk_at "tb"
  have s2 := setF_run (C := T 7) (f := "own_pairs") (go := fVar 0) (fs := [("own_names", rowT (sortS l))]) (fs' := [("own_names", rowT (sortS l)), ("own_pairs", tabD (sortS l) (lastW ws.reverse))]) eu rfl (app_get rfl) (by simp) rfl
  rw [app_set rfl] at s2
  have lv : leave false (h ++ [some (.ins (T 7) [])]) (.dat .none) (h ++ [some (.ins (T 7) [("own_names", rowT (sortS l)), ("own_pairs", tabD (sortS l) (lastW ws.reverse))])]) = some (.dat .none, h ++ [some (.ins (T 7) [("own_names", rowT (sortS l)), ("own_pairs", tabD (sortS l) (lastW ws.reverse))])]) := by
    have hn : (h ++ [some (MO.ins (T 7) [("own_names", rowT (sortS l)), ("own_pairs", tabD (sortS l) (lastW ws.reverse))])]).take (h ++ [some (MO.ins (T 7) [])]).length = h ++ [some (MO.ins (T 7) [("own_names", rowT (sortS l)), ("own_pairs", tabD (sortS l) (lastW ws.reverse))])] := by
      apply List.take_of_length_le
      simp
    have := leave_dat (h := h ++ [some (.ins (T 7) [])]) (h' := h ++ [some (.ins (T 7) [("own_names", rowT (sortS l)), ("own_pairs", tabD (sortS l) (lastW ws.reverse))])]) (d := .none) (by rw [hn]; simp [live])
    rw [hn] at this
    exact this
  have si : seqI (fVar 2) [some (.ref h.length), some (.dat x), some (.dat y), none] (h ++ [some (.ins (T 7) [])]) = some (ws.map (cD lb), h ++ [some (.ins (T 7) [])]) := by rcases hy with rfl | rfl <;> rfl
  unfold m_Table___init__
  unfold iniBody at e
  clear hx hy c nd hl ht hw pS es et e3 ef eu
  generalize tabD (sortS l) (lastW ws.reverse) = TD at *
  generalize rowT (sortS l) = RD at *
  have fr : sFor (seqI (fVar 2)) (gN 3) (sExpr (fA (m_look_alike) (fCons (fVar 1) (fCons (fA (m_people) (fCons (fVar 3) (fNil))) (fNil))))) [some (.ref h.length), some (.dat x), some (.dat y), none] (h ++ [some (.ins (T 7) [])]) = some (.nx [some (.ref h.length), some (.dat x), some (.dat y), v3], h ++ [some (.ins (T 7) [])]) := by
    unfold sFor
    rw [si]
    exact e
  clear e si
  simp only [↓fnM_e, ↓sSeq_e, fr, seqK_nx, s1, s2, retK_nx, lv, List.map_cons, List.map_nil, List.cons_append, List.nil_append, List.length_cons, List.length_nil, Nat.reduceAdd, Nat.reduceSub, List.replicate, List.replicate_succ, List.replicate_zero]
theorem fMkM_run {C : Addr} {mi : FM} {ga : AM} {ρ : DL.Env} {ws : List W} {h h1 h2 : Hh} (e1 : ga ρ h = some (ws, h1)) (e2 : mi (.ref h1.length :: ws) (h1 ++ [some (.ins C [])]) = some (.dat .none, h2)) : fMkM C mi ga ρ h = some (.ref h1.length, h2) := by
  unfold fMkM
  simp only [e1, obnd, e2]
theorem made_ok {T : Nat → Addr} {N : List Str} {f : Str × Str → Str × Str} {d : D} {h : Hh} (hs : sortS N = N) (nd : N.Nodup) (hl : N.length ≤ 100) (ht : Txts N) :
    m_Table_made T [tbI (T 7) N f, .dat d] h = some (.ins (T 7) [("own_names", rowT N), ("own_pairs", d)], h) := by
  have e := init_ok (T := T) (h := h) (x := rowT N) (y := .list []) (lb := false) (l := N) (ws := []) rfl (.inr rfl) (.inl rfl) (fun ps hp => by cases hp) nd hl ht (by simp)
  rw [hs] at e
  have eg : (fCons (fFld (T 7) "own_names" (fVar 0)) (fCons (fA (lstW false) (fNil)) (fNil))) [some (tbI (T 7) N f), some (.dat d), none] h = some ([.dat (rowT N), .dat (.list [])], h) := by
    clear e
    have c0 : 0 ≤ sizeLine := Nat.zero_le _
    walk_at "tb"
  have em := fMkM_run (C := T 7) eg e
  have s1 := setF_run (C := T 7) (f := "own_pairs") (go := fVar 2) (gv := fVar 1) (ρ := [some (tbI (T 7) N f), some (.dat d), some (.ref h.length)]) (h := h ++ [some (.ins (T 7) [("own_names", rowT N), ("own_pairs", tabD N (lastW ([] : List (List (Str × Str))).reverse))])]) (fs' := [("own_names", rowT N), ("own_pairs", d)]) rfl rfl (app_get rfl) (by simp) rfl
  rw [app_set rfl] at s1
  have fz : frzI 2 [some (tbI (T 7) N f), some (.dat d), some (.ref h.length)] (h ++ [some (.ins (T 7) [("own_names", rowT N), ("own_pairs", d)])]) = some ([some (tbI (T 7) N f), some (.dat d), some (.ins (T 7) [("own_names", rowT N), ("own_pairs", d)])], h ++ [none]) := by
    unfold frzI
    have hg : (h ++ [some (MO.ins (T 7) [("own_names", rowT N), ("own_pairs", d)])])[h.length]? = some (some (.ins (T 7) [("own_names", rowT N), ("own_pairs", d)])) := app_get rfl
    simp only [List.getElem?_cons_zero, List.getElem?_cons_succ, hg, List.set_cons_zero, List.set_cons_succ, List.any_cons, List.any_nil, isR, Bool.or_false, Bool.false_eq_true, if_false]
    rw [app_set rfl]
  have lv : leave false h (.ins (T 7) [("own_names", rowT N), ("own_pairs", d)]) (h ++ [none]) = some (.ins (T 7) [("own_names", rowT N), ("own_pairs", d)], h) := by
    unfold leave
    rw [app_take rfl, if_pos rfl]
  unfold m_Table_made
  have fs : ∀ g : SM, sFrzI 2 g [some (tbI (T 7) N f), some (.dat d), some (.ref h.length)] (h ++ [some (.ins (T 7) [("own_names", rowT N), ("own_pairs", d)])]) = g [some (tbI (T 7) N f), some (.dat d), some (.ins (T 7) [("own_names", rowT N), ("own_pairs", d)])] (h ++ [none]) := fun g => by
    unfold sFrzI
    rw [fz]
  clear hs nd hl ht e eg fz
  generalize tabD N (lastW ([] : List (List (Str × Str))).reverse) = T0 at *
  walk_at "tb"
end DL
set_option maxRecDepth 100000
set_option maxHeartbeats 400000
namespace DL
open PySem L2
variable [HW]
local macro_rules | `(tactic| walk_at "tb") => `(tactic| simp (config := { dsimp := false }) only [↓fFld_e, ↓fMeth_e, ↓fMk_e, fld_n, fld_p, met_leads, met_then, met_times, met_made, met_tells, met_names, ↓fnM_e, ↓sSeq_e, seqK_nx, seqK_rt, seqK_bk, seqK_ct, retK_rt, retK_nx, ↓sFrz_e, frK_some, ↓sAsg, ↓sRet, ↓sRetN, ↓sIf, ↓sExpr, ↓sSkip, ↓sNever, ↓sPar, ↓sFor, ↓sSub, ↓fVar, ↓fC, ↓fNil, ↓fCons, ↓fA, ↓f1, ↓f2, ↓fB, ↓fIf, ↓fNeg, ↓fNot, ↓fAnd, ↓fOr, ↓bNot, ↓bAnd, ↓bOr, ↓bYes, ↓obnd_x, ob_some, ↓sbnd_x, sb_some, ↓ite_x, iteK_t, iteK_f, gN, gT, gC, gE, ↓rng1I, ↓rng2I, ↓seqI, ↓enumA, ↓zipI, ↓strI, ↓fLc, ↓fDc, ↓fM, ↓fSl, ↓oNone, ↓oSome, ↓fRev, wipeE, ↓kwM, permM, permL, List.foldr, List.length_cons, List.length_nil, List.map_cons, List.map_nil, List.cons_append, List.nil_append, List.replicate, List.replicate_succ, List.replicate_zero, List.getElem?_cons_zero, List.getElem?_cons_succ, List.set_cons_zero, List.set_cons_succ, if_true, if_false, reduceIte, Nat.reduceAdd, Nat.reduceSub, Nat.reduceEqDiff, Nat.reduceLT, Nat.reduceLeDiff, Int.reduceLT, Int.reduceLE, Int.reduceNeg, Int.reduceMul, Int.reduceAdd, Int.reduceSub, Int.reduceToNat, Int.reducePow, Int.reduceEq, ok, bok, deref, mkL, lstW, tupW, dats, Option.map_some, appendW, insertW, setL, isL, listW, tupleW, lenW, absW, intC, maxW, minW, idxW, addW, subW_e, modW_e, divW_e, powW_e, mulW, intW, lt_e, gt_e, le_e, ge_e, ltW, allW_e, anyW_e, sumW_e, lW, setW, lstAt, cutW, backW, isW, isiW, iLT_none, iLT_bool, iLT_int, iLT_str, iLT_list, iLT_tup, iL_none, iL_bool, iL_int, iL_str, iL_list, iL_tup, iT_none, iT_bool, iT_int, iT_str, iT_list, iT_tup, iS_none, iS_bool, iS_int, iS_str, iS_list, iS_tup, iI_none, iI_bool, iI_int, iI_str, iI_list, iI_tup, iB_none, iB_bool, iB_int, iB_str, iB_list, iB_tup, Bool.false_eq_true, reduceCtorEq, Bool.not_true, Bool.not_false, decide_true, decide_false, List.zip_cons_cons, List.zip_nil_left, List.foldl_cons, List.foldl_nil, and_self, and_true, true_and, Bool.and_true, Bool.true_and, Bool.or_true, Bool.true_or, *])
end DL
set_option maxRecDepth 100000
namespace DL
open PySem L2
variable [HW]
end DL
set_option maxRecDepth 100000
set_option maxHeartbeats 400000
namespace DL
open PySem L2
variable [HW]
local macro_rules | `(tactic| walk_at "dl") => `(tactic| simp (config := { dsimp := false }) only [↓fnM_e, ↓sSeq_e, seqK_nx, seqK_rt, seqK_bk, seqK_ct, retK_rt, retK_nx, ↓sFrz_e, frK_some, ↓sAsg, ↓sRet, ↓sRetN, ↓sIf, ↓sExpr, ↓sSkip, ↓sNever, ↓sPar, ↓sFor, ↓sSub, ↓fVar, ↓fC, ↓fNil, ↓fCons, ↓fA, ↓f1, ↓f2, ↓fB, ↓fIf, ↓fNeg, ↓fNot, ↓fAnd, ↓fOr, ↓bNot, ↓bAnd, ↓bOr, ↓bYes, ↓obnd_x, ob_some, ↓sbnd_x, sb_some, ↓ite_x, iteK_t, iteK_f, gN, gT, gC, gE, ↓rng1I, ↓rng2I, ↓seqI, ↓enumA, ↓zipI, ↓strI, ↓fLc, ↓fDc, ↓fM, ↓fSl, ↓oNone, ↓oSome, ↓fRev, wipeE, ↓kwM, permM, permL, List.foldr, List.length_cons, List.length_nil, List.map_cons, List.map_nil, List.cons_append, List.nil_append, List.replicate, List.replicate_succ, List.replicate_zero, List.getElem?_cons_zero, List.getElem?_cons_succ, List.set_cons_zero, List.set_cons_succ, if_true, if_false, reduceIte, Nat.reduceAdd, Nat.reduceSub, Nat.reduceEqDiff, Nat.reduceLT, Nat.reduceLeDiff, Int.reduceLT, Int.reduceLE, Int.reduceNeg, Int.reduceMul, Int.reduceAdd, Int.reduceSub, Int.reduceToNat, Int.reducePow, Int.reduceEq, ok, bok, deref, mkL, lstW, tupW, dats, Option.map_some, appendW, insertW, setL, isL, listW, tupleW, lenW, absW, intC, maxW, minW, idxW, addW, subW_e, modW_e, divW_e, powW_e, mulW, intW, lt_e, gt_e, le_e, ge_e, ltW, allW_e, anyW_e, sumW_e, lW, setW, lstAt, cutW, backW, isW, isiW, iLT_none, iLT_bool, iLT_int, iLT_str, iLT_list, iLT_tup, iL_none, iL_bool, iL_int, iL_str, iL_list, iL_tup, iT_none, iT_bool, iT_int, iT_str, iT_list, iT_tup, iS_none, iS_bool, iS_int, iS_str, iS_list, iS_tup, iI_none, iI_bool, iI_int, iI_str, iI_list, iI_tup, iB_none, iB_bool, iB_int, iB_str, iB_list, iB_tup, Bool.false_eq_true, reduceCtorEq, Bool.not_true, Bool.not_false, decide_true, decide_false, List.zip_cons_cons, List.zip_nil_left, List.foldl_cons, List.foldl_nil, and_self, and_true, true_and, Bool.and_true, Bool.true_and, Bool.or_true, Bool.true_or, *])
local macro_rules | `(tactic| walk_at "tb") => `(tactic| simp (config := { dsimp := false }) only [↓fFld_e, ↓fMeth_e, ↓fMk_e, fld_n, fld_p, met_leads, met_then, met_times, met_made, met_tells, met_names, ↓fnM_e, ↓sSeq_e, seqK_nx, seqK_rt, seqK_bk, seqK_ct, retK_rt, retK_nx, ↓sFrz_e, frK_some, ↓sAsg, ↓sRet, ↓sRetN, ↓sIf, ↓sExpr, ↓sSkip, ↓sNever, ↓sPar, ↓sFor, ↓sSub, ↓fVar, ↓fC, ↓fNil, ↓fCons, ↓fA, ↓f1, ↓f2, ↓fB, ↓fIf, ↓fNeg, ↓fNot, ↓fAnd, ↓fOr, ↓bNot, ↓bAnd, ↓bOr, ↓bYes, ↓obnd_x, ob_some, ↓sbnd_x, sb_some, ↓ite_x, iteK_t, iteK_f, gN, gT, gC, gE, ↓rng1I, ↓rng2I, ↓seqI, ↓enumA, ↓zipI, ↓strI, ↓fLc, ↓fDc, ↓fM, ↓fSl, ↓oNone, ↓oSome, ↓fRev, wipeE, ↓kwM, permM, permL, List.foldr, List.length_cons, List.length_nil, List.map_cons, List.map_nil, List.cons_append, List.nil_append, List.replicate, List.replicate_succ, List.replicate_zero, List.getElem?_cons_zero, List.getElem?_cons_succ, List.set_cons_zero, List.set_cons_succ, if_true, if_false, reduceIte, Nat.reduceAdd, Nat.reduceSub, Nat.reduceEqDiff, Nat.reduceLT, Nat.reduceLeDiff, Int.reduceLT, Int.reduceLE, Int.reduceNeg, Int.reduceMul, Int.reduceAdd, Int.reduceSub, Int.reduceToNat, Int.reducePow, Int.reduceEq, ok, bok, deref, mkL, lstW, tupW, dats, Option.map_some, appendW, insertW, setL, isL, listW, tupleW, lenW, absW, intC, maxW, minW, idxW, addW, subW_e, modW_e, divW_e, powW_e, mulW, intW, lt_e, gt_e, le_e, ge_e, ltW, allW_e, anyW_e, sumW_e, lW, setW, lstAt, cutW, backW, isW, isiW, iLT_none, iLT_bool, iLT_int, iLT_str, iLT_list, iLT_tup, iL_none, iL_bool, iL_int, iL_str, iL_list, iL_tup, iT_none, iT_bool, iT_int, iT_str, iT_list, iT_tup, iS_none, iS_bool, iS_int, iS_str, iS_list, iS_tup, iI_none, iI_bool, iI_int, iI_str, iI_list, iI_tup, iB_none, iB_bool, iB_int, iB_str, iB_list, iB_tup, Bool.false_eq_true, reduceCtorEq, Bool.not_true, Bool.not_false, decide_true, decide_false, List.zip_cons_cons, List.zip_nil_left, List.foldl_cons, List.foldl_nil, and_self, and_true, true_and, Bool.and_true, Bool.true_and, Bool.or_true, Bool.true_or, *])
end DL
set_option maxRecDepth 100000
set_option maxHeartbeats 400000
namespace DL
open PySem L2
variable [HW]
local macro_rules | `(tactic| walk_at "dl") => `(tactic| simp (config := { dsimp := false }) only [↓fnM_e, ↓sSeq_e, seqK_nx, seqK_rt, seqK_bk, seqK_ct, retK_rt, retK_nx, ↓sFrz_e, frK_some, ↓sAsg, ↓sRet, ↓sRetN, ↓sIf, ↓sExpr, ↓sSkip, ↓sNever, ↓sPar, ↓sFor, ↓sSub, ↓fVar, ↓fC, ↓fNil, ↓fCons, ↓fA, ↓f1, ↓f2, ↓fB, ↓fIf, ↓fNeg, ↓fNot, ↓fAnd, ↓fOr, ↓bNot, ↓bAnd, ↓bOr, ↓bYes, ↓obnd_x, ob_some, ↓sbnd_x, sb_some, ↓ite_x, iteK_t, iteK_f, gN, gT, gC, gE, ↓rng1I, ↓rng2I, ↓seqI, ↓enumA, ↓zipI, ↓strI, ↓fLc, ↓fDc, ↓fM, ↓fSl, ↓oNone, ↓oSome, ↓fRev, wipeE, ↓kwM, permM, permL, List.foldr, List.length_cons, List.length_nil, List.map_cons, List.map_nil, List.cons_append, List.nil_append, List.replicate, List.replicate_succ, List.replicate_zero, List.getElem?_cons_zero, List.getElem?_cons_succ, List.set_cons_zero, List.set_cons_succ, if_true, if_false, reduceIte, Nat.reduceAdd, Nat.reduceSub, Nat.reduceEqDiff, Nat.reduceLT, Nat.reduceLeDiff, Int.reduceLT, Int.reduceLE, Int.reduceNeg, Int.reduceMul, Int.reduceAdd, Int.reduceSub, Int.reduceToNat, Int.reducePow, Int.reduceEq, ok, bok, deref, mkL, lstW, tupW, dats, Option.map_some, appendW, insertW, setL, isL, listW, tupleW, lenW, absW, intC, maxW, minW, idxW, addW, subW_e, modW_e, divW_e, powW_e, mulW, intW, lt_e, gt_e, le_e, ge_e, ltW, allW_e, anyW_e, sumW_e, lW, setW, lstAt, cutW, backW, isW, isiW, iLT_none, iLT_bool, iLT_int, iLT_str, iLT_list, iLT_tup, iL_none, iL_bool, iL_int, iL_str, iL_list, iL_tup, iT_none, iT_bool, iT_int, iT_str, iT_list, iT_tup, iS_none, iS_bool, iS_int, iS_str, iS_list, iS_tup, iI_none, iI_bool, iI_int, iI_str, iI_list, iI_tup, iB_none, iB_bool, iB_int, iB_str, iB_list, iB_tup, Bool.false_eq_true, reduceCtorEq, Bool.not_true, Bool.not_false, decide_true, decide_false, List.zip_cons_cons, List.zip_nil_left, List.foldl_cons, List.foldl_nil, and_self, and_true, true_and, Bool.and_true, Bool.true_and, Bool.or_true, Bool.true_or, *])
end DL
set_option maxRecDepth 100000
namespace DL
open PySem L2
variable [HW]
end DL
set_option maxRecDepth 100000
set_option maxHeartbeats 400000
namespace DL
open PySem L2
variable [HW]
local macro_rules | `(tactic| walk_at "dl") => `(tactic| simp (config := { dsimp := false }) only [↓fnM_e, ↓sSeq_e, seqK_nx, seqK_rt, seqK_bk, seqK_ct, retK_rt, retK_nx, ↓sFrz_e, frK_some, ↓sAsg, ↓sRet, ↓sRetN, ↓sIf, ↓sExpr, ↓sSkip, ↓sNever, ↓sPar, ↓sFor, ↓sSub, ↓fVar, ↓fC, ↓fNil, ↓fCons, ↓fA, ↓f1, ↓f2, ↓fB, ↓fIf, ↓fNeg, ↓fNot, ↓fAnd, ↓fOr, ↓bNot, ↓bAnd, ↓bOr, ↓bYes, ↓obnd_x, ob_some, ↓sbnd_x, sb_some, ↓ite_x, iteK_t, iteK_f, gN, gT, gC, gE, ↓rng1I, ↓rng2I, ↓seqI, ↓enumA, ↓zipI, ↓strI, ↓fLc, ↓fDc, ↓fM, ↓fSl, ↓oNone, ↓oSome, ↓fRev, wipeE, ↓kwM, permM, permL, List.foldr, List.length_cons, List.length_nil, List.map_cons, List.map_nil, List.cons_append, List.nil_append, List.replicate, List.replicate_succ, List.replicate_zero, List.getElem?_cons_zero, List.getElem?_cons_succ, List.set_cons_zero, List.set_cons_succ, if_true, if_false, reduceIte, Nat.reduceAdd, Nat.reduceSub, Nat.reduceEqDiff, Nat.reduceLT, Nat.reduceLeDiff, Int.reduceLT, Int.reduceLE, Int.reduceNeg, Int.reduceMul, Int.reduceAdd, Int.reduceSub, Int.reduceToNat, Int.reducePow, Int.reduceEq, ok, bok, deref, mkL, lstW, tupW, dats, Option.map_some, appendW, insertW, setL, isL, listW, tupleW, lenW, absW, intC, maxW, minW, idxW, addW, subW_e, modW_e, divW_e, powW_e, mulW, intW, lt_e, gt_e, le_e, ge_e, ltW, allW_e, anyW_e, sumW_e, lW, setW, lstAt, cutW, backW, isW, isiW, iLT_none, iLT_bool, iLT_int, iLT_str, iLT_list, iLT_tup, iL_none, iL_bool, iL_int, iL_str, iL_list, iL_tup, iT_none, iT_bool, iT_int, iT_str, iT_list, iT_tup, iS_none, iS_bool, iS_int, iS_str, iS_list, iS_tup, iI_none, iI_bool, iI_int, iI_str, iI_list, iI_tup, iB_none, iB_bool, iB_int, iB_str, iB_list, iB_tup, Bool.false_eq_true, reduceCtorEq, Bool.not_true, Bool.not_false, decide_true, decide_false, List.zip_cons_cons, List.zip_nil_left, List.foldl_cons, List.foldl_nil, and_self, and_true, true_and, Bool.and_true, Bool.true_and, Bool.or_true, Bool.true_or, *])
local macro_rules | `(tactic| walk_at "tg") => `(tactic| simp (config := { dsimp := false }) only [divBW_e, ↓fFld_e, ↓fMeth_e, ↓fMk_e, fld_n, fld_p, met_leads, met_then, met_times, met_made, met_tells, met_names, ↓fnM_e, ↓sSeq_e, seqK_nx, seqK_rt, seqK_bk, seqK_ct, retK_rt, retK_nx, ↓sFrz_e, frK_some, ↓sAsg, ↓sRet, ↓sRetN, ↓sIf, ↓sExpr, ↓sSkip, ↓sNever, ↓sPar, ↓sFor, ↓sSub, ↓fVar, ↓fC, ↓fNil, ↓fCons, ↓fA, ↓f1, ↓f2, ↓fB, ↓fIf, ↓fNeg, ↓fNot, ↓fAnd, ↓fOr, ↓bNot, ↓bAnd, ↓bOr, ↓bYes, ↓obnd_x, ob_some, ↓sbnd_x, sb_some, ↓ite_x, iteK_t, iteK_f, gN, gT, gC, gE, ↓rng1I, ↓rng2I, ↓seqI, ↓enumA, ↓zipI, ↓strI, ↓fLc, ↓fDc, ↓fM, ↓fSl, ↓oNone, ↓oSome, ↓fRev, wipeE, ↓kwM, permM, permL, List.foldr, List.length_cons, List.length_nil, List.map_cons, List.map_nil, List.cons_append, List.nil_append, List.replicate, List.replicate_succ, List.replicate_zero, List.getElem?_cons_zero, List.getElem?_cons_succ, List.set_cons_zero, List.set_cons_succ, if_true, if_false, reduceIte, Nat.reduceAdd, Nat.reduceSub, Nat.reduceEqDiff, Nat.reduceLT, Nat.reduceLeDiff, Int.reduceLT, Int.reduceLE, Int.reduceNeg, Int.reduceMul, Int.reduceAdd, Int.reduceSub, Int.reduceToNat, Int.reducePow, Int.reduceEq, ok, bok, deref, mkL, lstW, tupW, dats, Option.map_some, appendW, insertW, setL, isL, listW, tupleW, lenW, absW, intC, maxW, minW, idxW, addW, subW_e, modW_e, divW_e, powW_e, mulW, intW, lt_e, gt_e, le_e, ge_e, ltW, allW_e, anyW_e, sumW_e, lW, setW, lstAt, cutW, backW, isW, isiW, iLT_none, iLT_bool, iLT_int, iLT_str, iLT_list, iLT_tup, iL_none, iL_bool, iL_int, iL_str, iL_list, iL_tup, iT_none, iT_bool, iT_int, iT_str, iT_list, iT_tup, iS_none, iS_bool, iS_int, iS_str, iS_list, iS_tup, iI_none, iI_bool, iI_int, iI_str, iI_list, iI_tup, iB_none, iB_bool, iB_int, iB_str, iB_list, iB_tup, Bool.false_eq_true, reduceCtorEq, Bool.not_true, Bool.not_false, decide_true, decide_false, List.zip_cons_cons, List.zip_nil_left, List.foldl_cons, List.foldl_nil, and_self, and_true, true_and, Bool.and_true, Bool.true_and, Bool.or_true, Bool.true_or, *])
end DL
set_option maxRecDepth 100000
set_option maxHeartbeats 400000
namespace DL
open PySem L2
variable [HW]
local macro_rules | `(tactic| walk_at "dl") => `(tactic| simp (config := { dsimp := false }) only [↓fnM_e, ↓sSeq_e, seqK_nx, seqK_rt, seqK_bk, seqK_ct, retK_rt, retK_nx, ↓sFrz_e, frK_some, ↓sAsg, ↓sRet, ↓sRetN, ↓sIf, ↓sExpr, ↓sSkip, ↓sNever, ↓sPar, ↓sFor, ↓sSub, ↓fVar, ↓fC, ↓fNil, ↓fCons, ↓fA, ↓f1, ↓f2, ↓fB, ↓fIf, ↓fNeg, ↓fNot, ↓fAnd, ↓fOr, ↓bNot, ↓bAnd, ↓bOr, ↓bYes, ↓obnd_x, ob_some, ↓sbnd_x, sb_some, ↓ite_x, iteK_t, iteK_f, gN, gT, gC, gE, ↓rng1I, ↓rng2I, ↓seqI, ↓enumA, ↓zipI, ↓strI, ↓fLc, ↓fDc, ↓fM, ↓fSl, ↓oNone, ↓oSome, ↓fRev, wipeE, ↓kwM, permM, permL, List.foldr, List.length_cons, List.length_nil, List.map_cons, List.map_nil, List.cons_append, List.nil_append, List.replicate, List.replicate_succ, List.replicate_zero, List.getElem?_cons_zero, List.getElem?_cons_succ, List.set_cons_zero, List.set_cons_succ, if_true, if_false, reduceIte, Nat.reduceAdd, Nat.reduceSub, Nat.reduceEqDiff, Nat.reduceLT, Nat.reduceLeDiff, Int.reduceLT, Int.reduceLE, Int.reduceNeg, Int.reduceMul, Int.reduceAdd, Int.reduceSub, Int.reduceToNat, Int.reducePow, Int.reduceEq, ok, bok, deref, mkL, lstW, tupW, dats, Option.map_some, appendW, insertW, setL, isL, listW, tupleW, lenW, absW, intC, maxW, minW, idxW, addW, subW_e, modW_e, divW_e, powW_e, mulW, intW, lt_e, gt_e, le_e, ge_e, ltW, allW_e, anyW_e, sumW_e, lW, setW, lstAt, cutW, backW, isW, isiW, iLT_none, iLT_bool, iLT_int, iLT_str, iLT_list, iLT_tup, iL_none, iL_bool, iL_int, iL_str, iL_list, iL_tup, iT_none, iT_bool, iT_int, iT_str, iT_list, iT_tup, iS_none, iS_bool, iS_int, iS_str, iS_list, iS_tup, iI_none, iI_bool, iI_int, iI_str, iI_list, iI_tup, iB_none, iB_bool, iB_int, iB_str, iB_list, iB_tup, Bool.false_eq_true, reduceCtorEq, Bool.not_true, Bool.not_false, decide_true, decide_false, List.zip_cons_cons, List.zip_nil_left, List.foldl_cons, List.foldl_nil, and_self, and_true, true_and, Bool.and_true, Bool.true_and, Bool.or_true, Bool.true_or, *])
end DL
set_option maxRecDepth 100000
namespace DL
open PySem L2
variable [HW]
end DL
set_option maxRecDepth 100000
set_option maxHeartbeats 400000
namespace DL
open PySem L2
variable [HW]
local macro_rules | `(tactic| walk_at "dl") => `(tactic| simp (config := { dsimp := false }) only [↓fnM_e, ↓sSeq_e, seqK_nx, seqK_rt, seqK_bk, seqK_ct, retK_rt, retK_nx, ↓sFrz_e, frK_some, ↓sAsg, ↓sRet, ↓sRetN, ↓sIf, ↓sExpr, ↓sSkip, ↓sNever, ↓sPar, ↓sFor, ↓sSub, ↓fVar, ↓fC, ↓fNil, ↓fCons, ↓fA, ↓f1, ↓f2, ↓fB, ↓fIf, ↓fNeg, ↓fNot, ↓fAnd, ↓fOr, ↓bNot, ↓bAnd, ↓bOr, ↓bYes, ↓obnd_x, ob_some, ↓sbnd_x, sb_some, ↓ite_x, iteK_t, iteK_f, gN, gT, gC, gE, ↓rng1I, ↓rng2I, ↓seqI, ↓enumA, ↓zipI, ↓strI, ↓fLc, ↓fDc, ↓fM, ↓fSl, ↓oNone, ↓oSome, ↓fRev, wipeE, ↓kwM, permM, permL, List.foldr, List.length_cons, List.length_nil, List.map_cons, List.map_nil, List.cons_append, List.nil_append, List.replicate, List.replicate_succ, List.replicate_zero, List.getElem?_cons_zero, List.getElem?_cons_succ, List.set_cons_zero, List.set_cons_succ, if_true, if_false, reduceIte, Nat.reduceAdd, Nat.reduceSub, Nat.reduceEqDiff, Nat.reduceLT, Nat.reduceLeDiff, Int.reduceLT, Int.reduceLE, Int.reduceNeg, Int.reduceMul, Int.reduceAdd, Int.reduceSub, Int.reduceToNat, Int.reducePow, Int.reduceEq, ok, bok, deref, mkL, lstW, tupW, dats, Option.map_some, appendW, insertW, setL, isL, listW, tupleW, lenW, absW, intC, maxW, minW, idxW, addW, subW_e, modW_e, divW_e, powW_e, mulW, intW, lt_e, gt_e, le_e, ge_e, ltW, allW_e, anyW_e, sumW_e, lW, setW, lstAt, cutW, backW, isW, isiW, iLT_none, iLT_bool, iLT_int, iLT_str, iLT_list, iLT_tup, iL_none, iL_bool, iL_int, iL_str, iL_list, iL_tup, iT_none, iT_bool, iT_int, iT_str, iT_list, iT_tup, iS_none, iS_bool, iS_int, iS_str, iS_list, iS_tup, iI_none, iI_bool, iI_int, iI_str, iI_list, iI_tup, iB_none, iB_bool, iB_int, iB_str, iB_list, iB_tup, Bool.false_eq_true, reduceCtorEq, Bool.not_true, Bool.not_false, decide_true, decide_false, List.zip_cons_cons, List.zip_nil_left, List.foldl_cons, List.foldl_nil, and_self, and_true, true_and, Bool.and_true, Bool.true_and, Bool.or_true, Bool.true_or, *])
def EvP (t : Nat → Bool) (a k : Nat) : Prop := ∀ n, a ≤ n → t (n + k) = t n
theorem EvP.mono {t : Nat → Bool} {a b k : Nat} (h : EvP t a k) (q : a ≤ b) : EvP t b k := fun n hn => h n (by omega)
end DL
set_option maxRecDepth 100000
set_option maxHeartbeats 400000
namespace DL
open PySem L2
variable [HW]
local macro_rules | `(tactic| walk_at "dl") => `(tactic| simp (config := { dsimp := false }) only [↓fnM_e, ↓sSeq_e, seqK_nx, seqK_rt, seqK_bk, seqK_ct, retK_rt, retK_nx, ↓sFrz_e, frK_some, ↓sAsg, ↓sRet, ↓sRetN, ↓sIf, ↓sExpr, ↓sSkip, ↓sNever, ↓sPar, ↓sFor, ↓sSub, ↓fVar, ↓fC, ↓fNil, ↓fCons, ↓fA, ↓f1, ↓f2, ↓fB, ↓fIf, ↓fNeg, ↓fNot, ↓fAnd, ↓fOr, ↓bNot, ↓bAnd, ↓bOr, ↓bYes, ↓obnd_x, ob_some, ↓sbnd_x, sb_some, ↓ite_x, iteK_t, iteK_f, gN, gT, gC, gE, ↓rng1I, ↓rng2I, ↓seqI, ↓enumA, ↓zipI, ↓strI, ↓fLc, ↓fDc, ↓fM, ↓fSl, ↓oNone, ↓oSome, ↓fRev, wipeE, ↓kwM, permM, permL, List.foldr, List.length_cons, List.length_nil, List.map_cons, List.map_nil, List.cons_append, List.nil_append, List.replicate, List.replicate_succ, List.replicate_zero, List.getElem?_cons_zero, List.getElem?_cons_succ, List.set_cons_zero, List.set_cons_succ, if_true, if_false, reduceIte, Nat.reduceAdd, Nat.reduceSub, Nat.reduceEqDiff, Nat.reduceLT, Nat.reduceLeDiff, Int.reduceLT, Int.reduceLE, Int.reduceNeg, Int.reduceMul, Int.reduceAdd, Int.reduceSub, Int.reduceToNat, Int.reducePow, Int.reduceEq, ok, bok, deref, mkL, lstW, tupW, dats, Option.map_some, appendW, insertW, setL, isL, listW, tupleW, lenW, absW, intC, maxW, minW, idxW, addW, subW_e, modW_e, divW_e, powW_e, mulW, intW, lt_e, gt_e, le_e, ge_e, ltW, allW_e, anyW_e, sumW_e, lW, setW, lstAt, cutW, backW, isW, isiW, iLT_none, iLT_bool, iLT_int, iLT_str, iLT_list, iLT_tup, iL_none, iL_bool, iL_int, iL_str, iL_list, iL_tup, iT_none, iT_bool, iT_int, iT_str, iT_list, iT_tup, iS_none, iS_bool, iS_int, iS_str, iS_list, iS_tup, iI_none, iI_bool, iI_int, iI_str, iI_list, iI_tup, iB_none, iB_bool, iB_int, iB_str, iB_list, iB_tup, Bool.false_eq_true, reduceCtorEq, Bool.not_true, Bool.not_false, decide_true, decide_false, List.zip_cons_cons, List.zip_nil_left, List.foldl_cons, List.foldl_nil, and_self, and_true, true_and, Bool.and_true, Bool.true_and, Bool.or_true, Bool.true_or, *])
end DL
set_option maxRecDepth 100000
set_option maxHeartbeats 400000
namespace DL
open PySem L2
variable [HW]
local macro_rules | `(tactic| walk_at "dl") => `(tactic| simp (config := { dsimp := false }) only [↓fnM_e, ↓sSeq_e, seqK_nx, seqK_rt, seqK_bk, seqK_ct, retK_rt, retK_nx, ↓sFrz_e, frK_some, ↓sAsg, ↓sRet, ↓sRetN, ↓sIf, ↓sExpr, ↓sSkip, ↓sNever, ↓sPar, ↓sFor, ↓sSub, ↓fVar, ↓fC, ↓fNil, ↓fCons, ↓fA, ↓f1, ↓f2, ↓fB, ↓fIf, ↓fNeg, ↓fNot, ↓fAnd, ↓fOr, ↓bNot, ↓bAnd, ↓bOr, ↓bYes, ↓obnd_x, ob_some, ↓sbnd_x, sb_some, ↓ite_x, iteK_t, iteK_f, gN, gT, gC, gE, ↓rng1I, ↓rng2I, ↓seqI, ↓enumA, ↓zipI, ↓strI, ↓fLc, ↓fDc, ↓fM, ↓fSl, ↓oNone, ↓oSome, ↓fRev, wipeE, ↓kwM, permM, permL, List.foldr, List.length_cons, List.length_nil, List.map_cons, List.map_nil, List.cons_append, List.nil_append, List.replicate, List.replicate_succ, List.replicate_zero, List.getElem?_cons_zero, List.getElem?_cons_succ, List.set_cons_zero, List.set_cons_succ, if_true, if_false, reduceIte, Nat.reduceAdd, Nat.reduceSub, Nat.reduceEqDiff, Nat.reduceLT, Nat.reduceLeDiff, Int.reduceLT, Int.reduceLE, Int.reduceNeg, Int.reduceMul, Int.reduceAdd, Int.reduceSub, Int.reduceToNat, Int.reducePow, Int.reduceEq, ok, bok, deref, mkL, lstW, tupW, dats, Option.map_some, appendW, insertW, setL, isL, listW, tupleW, lenW, absW, intC, maxW, minW, idxW, addW, subW_e, modW_e, divW_e, powW_e, mulW, intW, lt_e, gt_e, le_e, ge_e, ltW, allW_e, anyW_e, sumW_e, lW, setW, lstAt, cutW, backW, isW, isiW, iLT_none, iLT_bool, iLT_int, iLT_str, iLT_list, iLT_tup, iL_none, iL_bool, iL_int, iL_str, iL_list, iL_tup, iT_none, iT_bool, iT_int, iT_str, iT_list, iT_tup, iS_none, iS_bool, iS_int, iS_str, iS_list, iS_tup, iI_none, iI_bool, iI_int, iI_str, iI_list, iI_tup, iB_none, iB_bool, iB_int, iB_str, iB_list, iB_tup, Bool.false_eq_true, reduceCtorEq, Bool.not_true, Bool.not_false, decide_true, decide_false, List.zip_cons_cons, List.zip_nil_left, List.foldl_cons, List.foldl_nil, and_self, and_true, true_and, Bool.and_true, Bool.true_and, Bool.or_true, Bool.true_or, *])
end DL
set_option maxRecDepth 100000
set_option maxHeartbeats 400000
namespace DL
open PySem L2
variable [HW]
local macro_rules | `(tactic| walk_at "dl") => `(tactic| simp (config := { dsimp := false }) only [↓fnM_e, ↓sSeq_e, seqK_nx, seqK_rt, seqK_bk, seqK_ct, retK_rt, retK_nx, ↓sFrz_e, frK_some, ↓sAsg, ↓sRet, ↓sRetN, ↓sIf, ↓sExpr, ↓sSkip, ↓sNever, ↓sPar, ↓sFor, ↓sSub, ↓fVar, ↓fC, ↓fNil, ↓fCons, ↓fA, ↓f1, ↓f2, ↓fB, ↓fIf, ↓fNeg, ↓fNot, ↓fAnd, ↓fOr, ↓bNot, ↓bAnd, ↓bOr, ↓bYes, ↓obnd_x, ob_some, ↓sbnd_x, sb_some, ↓ite_x, iteK_t, iteK_f, gN, gT, gC, gE, ↓rng1I, ↓rng2I, ↓seqI, ↓enumA, ↓zipI, ↓strI, ↓fLc, ↓fDc, ↓fM, ↓fSl, ↓oNone, ↓oSome, ↓fRev, wipeE, ↓kwM, permM, permL, List.foldr, List.length_cons, List.length_nil, List.map_cons, List.map_nil, List.cons_append, List.nil_append, List.replicate, List.replicate_succ, List.replicate_zero, List.getElem?_cons_zero, List.getElem?_cons_succ, List.set_cons_zero, List.set_cons_succ, if_true, if_false, reduceIte, Nat.reduceAdd, Nat.reduceSub, Nat.reduceEqDiff, Nat.reduceLT, Nat.reduceLeDiff, Int.reduceLT, Int.reduceLE, Int.reduceNeg, Int.reduceMul, Int.reduceAdd, Int.reduceSub, Int.reduceToNat, Int.reducePow, Int.reduceEq, ok, bok, deref, mkL, lstW, tupW, dats, Option.map_some, appendW, insertW, setL, isL, listW, tupleW, lenW, absW, intC, maxW, minW, idxW, addW, subW_e, modW_e, divW_e, powW_e, mulW, intW, lt_e, gt_e, le_e, ge_e, ltW, allW_e, anyW_e, sumW_e, lW, setW, lstAt, cutW, backW, isW, isiW, iLT_none, iLT_bool, iLT_int, iLT_str, iLT_list, iLT_tup, iL_none, iL_bool, iL_int, iL_str, iL_list, iL_tup, iT_none, iT_bool, iT_int, iT_str, iT_list, iT_tup, iS_none, iS_bool, iS_int, iS_str, iS_list, iS_tup, iI_none, iI_bool, iI_int, iI_str, iI_list, iI_tup, iB_none, iB_bool, iB_int, iB_str, iB_list, iB_tup, Bool.false_eq_true, reduceCtorEq, Bool.not_true, Bool.not_false, decide_true, decide_false, List.zip_cons_cons, List.zip_nil_left, List.foldl_cons, List.foldl_nil, and_self, and_true, true_and, Bool.and_true, Bool.true_and, Bool.or_true, Bool.true_or, *])
end DL
set_option maxRecDepth 100000
set_option maxHeartbeats 400000
namespace DL
open PySem L2
variable [HW]
end DL
set_option maxRecDepth 100000
set_option maxHeartbeats 400000
namespace DL
open PySem L2
variable [HW]
local macro_rules | `(tactic| walk_at "dl") => `(tactic| simp (config := { dsimp := false }) only [↓fnM_e, ↓sSeq_e, seqK_nx, seqK_rt, seqK_bk, seqK_ct, retK_rt, retK_nx, ↓sFrz_e, frK_some, ↓sAsg, ↓sRet, ↓sRetN, ↓sIf, ↓sExpr, ↓sSkip, ↓sNever, ↓sPar, ↓sFor, ↓sSub, ↓fVar, ↓fC, ↓fNil, ↓fCons, ↓fA, ↓f1, ↓f2, ↓fB, ↓fIf, ↓fNeg, ↓fNot, ↓fAnd, ↓fOr, ↓bNot, ↓bAnd, ↓bOr, ↓bYes, ↓obnd_x, ob_some, ↓sbnd_x, sb_some, ↓ite_x, iteK_t, iteK_f, gN, gT, gC, gE, ↓rng1I, ↓rng2I, ↓seqI, ↓enumA, ↓zipI, ↓strI, ↓fLc, ↓fDc, ↓fM, ↓fSl, ↓oNone, ↓oSome, ↓fRev, wipeE, ↓kwM, permM, permL, List.foldr, List.length_cons, List.length_nil, List.map_cons, List.map_nil, List.cons_append, List.nil_append, List.replicate, List.replicate_succ, List.replicate_zero, List.getElem?_cons_zero, List.getElem?_cons_succ, List.set_cons_zero, List.set_cons_succ, if_true, if_false, reduceIte, Nat.reduceAdd, Nat.reduceSub, Nat.reduceEqDiff, Nat.reduceLT, Nat.reduceLeDiff, Int.reduceLT, Int.reduceLE, Int.reduceNeg, Int.reduceMul, Int.reduceAdd, Int.reduceSub, Int.reduceToNat, Int.reducePow, Int.reduceEq, ok, bok, deref, mkL, lstW, tupW, dats, Option.map_some, appendW, insertW, setL, isL, listW, tupleW, lenW, absW, intC, maxW, minW, idxW, addW, subW_e, modW_e, divW_e, powW_e, mulW, intW, lt_e, gt_e, le_e, ge_e, ltW, allW_e, anyW_e, sumW_e, lW, setW, lstAt, cutW, backW, isW, isiW, iLT_none, iLT_bool, iLT_int, iLT_str, iLT_list, iLT_tup, iL_none, iL_bool, iL_int, iL_str, iL_list, iL_tup, iT_none, iT_bool, iT_int, iT_str, iT_list, iT_tup, iS_none, iS_bool, iS_int, iS_str, iS_list, iS_tup, iI_none, iI_bool, iI_int, iI_str, iI_list, iI_tup, iB_none, iB_bool, iB_int, iB_str, iB_list, iB_tup, Bool.false_eq_true, reduceCtorEq, Bool.not_true, Bool.not_false, decide_true, decide_false, List.zip_cons_cons, List.zip_nil_left, List.foldl_cons, List.foldl_nil, and_self, and_true, true_and, Bool.and_true, Bool.true_and, Bool.or_true, Bool.true_or, *])
local macro_rules | `(tactic| walk_at "tb") => `(tactic| simp (config := { dsimp := false }) only [↓fFld_e, ↓fMeth_e, ↓fMk_e, fld_n, fld_p, met_leads, met_then, met_times, met_made, met_tells, met_names, ↓fnM_e, ↓sSeq_e, seqK_nx, seqK_rt, seqK_bk, seqK_ct, retK_rt, retK_nx, ↓sFrz_e, frK_some, ↓sAsg, ↓sRet, ↓sRetN, ↓sIf, ↓sExpr, ↓sSkip, ↓sNever, ↓sPar, ↓sFor, ↓sSub, ↓fVar, ↓fC, ↓fNil, ↓fCons, ↓fA, ↓f1, ↓f2, ↓fB, ↓fIf, ↓fNeg, ↓fNot, ↓fAnd, ↓fOr, ↓bNot, ↓bAnd, ↓bOr, ↓bYes, ↓obnd_x, ob_some, ↓sbnd_x, sb_some, ↓ite_x, iteK_t, iteK_f, gN, gT, gC, gE, ↓rng1I, ↓rng2I, ↓seqI, ↓enumA, ↓zipI, ↓strI, ↓fLc, ↓fDc, ↓fM, ↓fSl, ↓oNone, ↓oSome, ↓fRev, wipeE, ↓kwM, permM, permL, List.foldr, List.length_cons, List.length_nil, List.map_cons, List.map_nil, List.cons_append, List.nil_append, List.replicate, List.replicate_succ, List.replicate_zero, List.getElem?_cons_zero, List.getElem?_cons_succ, List.set_cons_zero, List.set_cons_succ, if_true, if_false, reduceIte, Nat.reduceAdd, Nat.reduceSub, Nat.reduceEqDiff, Nat.reduceLT, Nat.reduceLeDiff, Int.reduceLT, Int.reduceLE, Int.reduceNeg, Int.reduceMul, Int.reduceAdd, Int.reduceSub, Int.reduceToNat, Int.reducePow, Int.reduceEq, ok, bok, deref, mkL, lstW, tupW, dats, Option.map_some, appendW, insertW, setL, isL, listW, tupleW, lenW, absW, intC, maxW, minW, idxW, addW, subW_e, modW_e, divW_e, powW_e, mulW, intW, lt_e, gt_e, le_e, ge_e, ltW, allW_e, anyW_e, sumW_e, lW, setW, lstAt, cutW, backW, isW, isiW, iLT_none, iLT_bool, iLT_int, iLT_str, iLT_list, iLT_tup, iL_none, iL_bool, iL_int, iL_str, iL_list, iL_tup, iT_none, iT_bool, iT_int, iT_str, iT_list, iT_tup, iS_none, iS_bool, iS_int, iS_str, iS_list, iS_tup, iI_none, iI_bool, iI_int, iI_str, iI_list, iI_tup, iB_none, iB_bool, iB_int, iB_str, iB_list, iB_tup, Bool.false_eq_true, reduceCtorEq, Bool.not_true, Bool.not_false, decide_true, decide_false, List.zip_cons_cons, List.zip_nil_left, List.foldl_cons, List.foldl_nil, and_self, and_true, true_and, Bool.and_true, Bool.true_and, Bool.or_true, Bool.true_or, *])
end DL
set_option maxRecDepth 100000
set_option maxHeartbeats 400000
namespace DL
open PySem L2
variable [HW]
local macro_rules | `(tactic| walk_at "tb") => `(tactic| simp (config := { dsimp := false }) only [↓fFld_e, ↓fMeth_e, ↓fMk_e, fld_n, fld_p, met_leads, met_then, met_times, met_made, met_tells, met_names, ↓fnM_e, ↓sSeq_e, seqK_nx, seqK_rt, seqK_bk, seqK_ct, retK_rt, retK_nx, ↓sFrz_e, frK_some, ↓sAsg, ↓sRet, ↓sRetN, ↓sIf, ↓sExpr, ↓sSkip, ↓sNever, ↓sPar, ↓sFor, ↓sSub, ↓fVar, ↓fC, ↓fNil, ↓fCons, ↓fA, ↓f1, ↓f2, ↓fB, ↓fIf, ↓fNeg, ↓fNot, ↓fAnd, ↓fOr, ↓bNot, ↓bAnd, ↓bOr, ↓bYes, ↓obnd_x, ob_some, ↓sbnd_x, sb_some, ↓ite_x, iteK_t, iteK_f, gN, gT, gC, gE, ↓rng1I, ↓rng2I, ↓seqI, ↓enumA, ↓zipI, ↓strI, ↓fLc, ↓fDc, ↓fM, ↓fSl, ↓oNone, ↓oSome, ↓fRev, wipeE, ↓kwM, permM, permL, List.foldr, List.length_cons, List.length_nil, List.map_cons, List.map_nil, List.cons_append, List.nil_append, List.replicate, List.replicate_succ, List.replicate_zero, List.getElem?_cons_zero, List.getElem?_cons_succ, List.set_cons_zero, List.set_cons_succ, if_true, if_false, reduceIte, Nat.reduceAdd, Nat.reduceSub, Nat.reduceEqDiff, Nat.reduceLT, Nat.reduceLeDiff, Int.reduceLT, Int.reduceLE, Int.reduceNeg, Int.reduceMul, Int.reduceAdd, Int.reduceSub, Int.reduceToNat, Int.reducePow, Int.reduceEq, ok, bok, deref, mkL, lstW, tupW, dats, Option.map_some, appendW, insertW, setL, isL, listW, tupleW, lenW, absW, intC, maxW, minW, idxW, addW, subW_e, modW_e, divW_e, powW_e, mulW, intW, lt_e, gt_e, le_e, ge_e, ltW, allW_e, anyW_e, sumW_e, lW, setW, lstAt, cutW, backW, isW, isiW, iLT_none, iLT_bool, iLT_int, iLT_str, iLT_list, iLT_tup, iL_none, iL_bool, iL_int, iL_str, iL_list, iL_tup, iT_none, iT_bool, iT_int, iT_str, iT_list, iT_tup, iS_none, iS_bool, iS_int, iS_str, iS_list, iS_tup, iI_none, iI_bool, iI_int, iI_str, iI_list, iI_tup, iB_none, iB_bool, iB_int, iB_str, iB_list, iB_tup, Bool.false_eq_true, reduceCtorEq, Bool.not_true, Bool.not_false, decide_true, decide_false, List.zip_cons_cons, List.zip_nil_left, List.foldl_cons, List.foldl_nil, and_self, and_true, true_and, Bool.and_true, Bool.true_and, Bool.or_true, Bool.true_or, *])
end DL
set_option maxRecDepth 100000
namespace DL
open PySem L2
variable [HW]
end DL
set_option maxRecDepth 100000
set_option maxHeartbeats 400000
namespace DL
open PySem L2
variable [HW]
local macro_rules | `(tactic| walk_at "dl") => `(tactic| simp (config := { dsimp := false }) only [↓fnM_e, ↓sSeq_e, seqK_nx, seqK_rt, seqK_bk, seqK_ct, retK_rt, retK_nx, ↓sFrz_e, frK_some, ↓sAsg, ↓sRet, ↓sRetN, ↓sIf, ↓sExpr, ↓sSkip, ↓sNever, ↓sPar, ↓sFor, ↓sSub, ↓fVar, ↓fC, ↓fNil, ↓fCons, ↓fA, ↓f1, ↓f2, ↓fB, ↓fIf, ↓fNeg, ↓fNot, ↓fAnd, ↓fOr, ↓bNot, ↓bAnd, ↓bOr, ↓bYes, ↓obnd_x, ob_some, ↓sbnd_x, sb_some, ↓ite_x, iteK_t, iteK_f, gN, gT, gC, gE, ↓rng1I, ↓rng2I, ↓seqI, ↓enumA, ↓zipI, ↓strI, ↓fLc, ↓fDc, ↓fM, ↓fSl, ↓oNone, ↓oSome, ↓fRev, wipeE, ↓kwM, permM, permL, List.foldr, List.length_cons, List.length_nil, List.map_cons, List.map_nil, List.cons_append, List.nil_append, List.replicate, List.replicate_succ, List.replicate_zero, List.getElem?_cons_zero, List.getElem?_cons_succ, List.set_cons_zero, List.set_cons_succ, if_true, if_false, reduceIte, Nat.reduceAdd, Nat.reduceSub, Nat.reduceEqDiff, Nat.reduceLT, Nat.reduceLeDiff, Int.reduceLT, Int.reduceLE, Int.reduceNeg, Int.reduceMul, Int.reduceAdd, Int.reduceSub, Int.reduceToNat, Int.reducePow, Int.reduceEq, ok, bok, deref, mkL, lstW, tupW, dats, Option.map_some, appendW, insertW, setL, isL, listW, tupleW, lenW, absW, intC, maxW, minW, idxW, addW, subW_e, modW_e, divW_e, powW_e, mulW, intW, lt_e, gt_e, le_e, ge_e, ltW, allW_e, anyW_e, sumW_e, lW, setW, lstAt, cutW, backW, isW, isiW, iLT_none, iLT_bool, iLT_int, iLT_str, iLT_list, iLT_tup, iL_none, iL_bool, iL_int, iL_str, iL_list, iL_tup, iT_none, iT_bool, iT_int, iT_str, iT_list, iT_tup, iS_none, iS_bool, iS_int, iS_str, iS_list, iS_tup, iI_none, iI_bool, iI_int, iI_str, iI_list, iI_tup, iB_none, iB_bool, iB_int, iB_str, iB_list, iB_tup, Bool.false_eq_true, reduceCtorEq, Bool.not_true, Bool.not_false, decide_true, decide_false, List.zip_cons_cons, List.zip_nil_left, List.foldl_cons, List.foldl_nil, and_self, and_true, true_and, Bool.and_true, Bool.true_and, Bool.or_true, Bool.true_or, *])
theorem fnM_rt {rm : Bool} {np nl : Nat} {body : SM} {ws : List W} {h h' : Hh} {w : W} {r : Option (W × Hh)} (hb : body (ws.map some ++ List.replicate (nl - np) none) h = some (.rt w, h')) (e : ws.length = np) (lv : leave rm h w h' = r) : fnM rm np nl body ws h = r := by
  rw [fnM_e _ _ _ _ _ _ e, hb, retK_rt, lv]
section
variable {h : Hh}
theorem sub_i {i j : Int} : subW (.dat (.int i)) (.dat (.int j)) h = some (.dat (.int (i - j)), h) := by
  unfold subW intW
  simp only [deref, if_true]
  rfl
theorem xB {E : EM} {ρ : DL.Env} {b : Bool} (e : E ρ h = some (.dat (.bool b), h)) : fB E ρ h = some (b, h) := by
  unfold fB
  simp only [e, obnd]
end
abbrev zz : Str := "zz"
end DL
set_option maxRecDepth 100000
set_option maxHeartbeats 400000
namespace DL
open PySem L2
variable [HW]
structure Grow (b : Nat) (h h' : Hh) : Prop where
  le : h.length ≤ h'.length
  off : ∀ i : Nat, i < h.length → i ≠ b → h'[i]? = h[i]?
theorem Grow.only {b : Nat} {h h' : Hh} (o : Only b h h') : Grow b h h' := ⟨by rw [o.len]; exact Nat.le_refl _, fun i _ n => o.off i n⟩
theorem Grow.app {b : Nat} {h l : Hh} : Grow b h (h ++ l) := ⟨by rw [List.length_append]; omega, fun i hi _ => List.getElem?_append_left hi⟩
theorem Grow.trans {b : Nat} {h h1 h2 : Hh} (x : Grow b h h1) (y : Grow b h1 h2) : Grow b h h2 := ⟨Nat.le_trans x.le y.le, fun i hi n => (y.off i (Nat.lt_of_lt_of_le hi x.le) n).trans (x.off i hi n)⟩
theorem Grow.fin {b c c' : Nat} {h h' : Hh} (x : Grow b h h') (hb : BoxAt h b c) (y : BoxAt h' b c') : (∀ d : D, leave false h (.dat d) h' = some (.dat d, h'.take h.length)) ∧ BoxAt (h'.take h.length) b c' ∧ Only b h (h'.take h.length) := by
  have hl : (h'.take h.length).length = h.length := by rw [List.length_take]; have := x.le; omega
  have o : Only b h (h'.take h.length) := ⟨hl, fun i n => by
    by_cases q : i < h.length
    · rw [List.getElem?_take_of_lt q]; exact x.off i q n
    · rw [List.getElem?_eq_none (by omega), List.getElem?_eq_none (by omega)]⟩
  have bx := box_take y hb.lt
  exact ⟨fun d => leave_dat (live_only hb bx o), bx, o⟩
theorem Pre.grow {h0 h h' : Hh} {b : Nat} (p : Pre h0 h) (hb : h0.length ≤ b) (hl : h0.length ≤ h.length) (x : Grow b h h') : Pre h0 h' := fun i hi => (x.off i (by omega) (by omega)).trans (p i hi)
end DL
set_option maxRecDepth 100000
namespace DL
open PySem L2
variable [HW]
end DL
set_option maxRecDepth 100000
set_option maxHeartbeats 400000
namespace DL
open PySem L2
variable [HW]
local macro_rules | `(tactic| walk_at "dl") => `(tactic| simp (config := { dsimp := false }) only [↓fnM_e, ↓sSeq_e, seqK_nx, seqK_rt, seqK_bk, seqK_ct, retK_rt, retK_nx, ↓sFrz_e, frK_some, ↓sAsg, ↓sRet, ↓sRetN, ↓sIf, ↓sExpr, ↓sSkip, ↓sNever, ↓sPar, ↓sFor, ↓sSub, ↓fVar, ↓fC, ↓fNil, ↓fCons, ↓fA, ↓f1, ↓f2, ↓fB, ↓fIf, ↓fNeg, ↓fNot, ↓fAnd, ↓fOr, ↓bNot, ↓bAnd, ↓bOr, ↓bYes, ↓obnd_x, ob_some, ↓sbnd_x, sb_some, ↓ite_x, iteK_t, iteK_f, gN, gT, gC, gE, ↓rng1I, ↓rng2I, ↓seqI, ↓enumA, ↓zipI, ↓strI, ↓fLc, ↓fDc, ↓fM, ↓fSl, ↓oNone, ↓oSome, ↓fRev, wipeE, ↓kwM, permM, permL, List.foldr, List.length_cons, List.length_nil, List.map_cons, List.map_nil, List.cons_append, List.nil_append, List.replicate, List.replicate_succ, List.replicate_zero, List.getElem?_cons_zero, List.getElem?_cons_succ, List.set_cons_zero, List.set_cons_succ, if_true, if_false, reduceIte, Nat.reduceAdd, Nat.reduceSub, Nat.reduceEqDiff, Nat.reduceLT, Nat.reduceLeDiff, Int.reduceLT, Int.reduceLE, Int.reduceNeg, Int.reduceMul, Int.reduceAdd, Int.reduceSub, Int.reduceToNat, Int.reducePow, Int.reduceEq, ok, bok, deref, mkL, lstW, tupW, dats, Option.map_some, appendW, insertW, setL, isL, listW, tupleW, lenW, absW, intC, maxW, minW, idxW, addW, subW_e, modW_e, divW_e, powW_e, mulW, intW, lt_e, gt_e, le_e, ge_e, ltW, allW_e, anyW_e, sumW_e, lW, setW, lstAt, cutW, backW, isW, isiW, iLT_none, iLT_bool, iLT_int, iLT_str, iLT_list, iLT_tup, iL_none, iL_bool, iL_int, iL_str, iL_list, iL_tup, iT_none, iT_bool, iT_int, iT_str, iT_list, iT_tup, iS_none, iS_bool, iS_int, iS_str, iS_list, iS_tup, iI_none, iI_bool, iI_int, iI_str, iI_list, iI_tup, iB_none, iB_bool, iB_int, iB_str, iB_list, iB_tup, Bool.false_eq_true, reduceCtorEq, Bool.not_true, Bool.not_false, decide_true, decide_false, List.zip_cons_cons, List.zip_nil_left, List.foldl_cons, List.foldl_nil, and_self, and_true, true_and, Bool.and_true, Bool.true_and, Bool.or_true, Bool.true_or, *])
local macro_rules | `(tactic| walk_at "tb") => `(tactic| simp (config := { dsimp := false }) only [↓fFld_e, ↓fMeth_e, ↓fMk_e, fld_n, fld_p, met_leads, met_then, met_times, met_made, met_tells, met_names, ↓fnM_e, ↓sSeq_e, seqK_nx, seqK_rt, seqK_bk, seqK_ct, retK_rt, retK_nx, ↓sFrz_e, frK_some, ↓sAsg, ↓sRet, ↓sRetN, ↓sIf, ↓sExpr, ↓sSkip, ↓sNever, ↓sPar, ↓sFor, ↓sSub, ↓fVar, ↓fC, ↓fNil, ↓fCons, ↓fA, ↓f1, ↓f2, ↓fB, ↓fIf, ↓fNeg, ↓fNot, ↓fAnd, ↓fOr, ↓bNot, ↓bAnd, ↓bOr, ↓bYes, ↓obnd_x, ob_some, ↓sbnd_x, sb_some, ↓ite_x, iteK_t, iteK_f, gN, gT, gC, gE, ↓rng1I, ↓rng2I, ↓seqI, ↓enumA, ↓zipI, ↓strI, ↓fLc, ↓fDc, ↓fM, ↓fSl, ↓oNone, ↓oSome, ↓fRev, wipeE, ↓kwM, permM, permL, List.foldr, List.length_cons, List.length_nil, List.map_cons, List.map_nil, List.cons_append, List.nil_append, List.replicate, List.replicate_succ, List.replicate_zero, List.getElem?_cons_zero, List.getElem?_cons_succ, List.set_cons_zero, List.set_cons_succ, if_true, if_false, reduceIte, Nat.reduceAdd, Nat.reduceSub, Nat.reduceEqDiff, Nat.reduceLT, Nat.reduceLeDiff, Int.reduceLT, Int.reduceLE, Int.reduceNeg, Int.reduceMul, Int.reduceAdd, Int.reduceSub, Int.reduceToNat, Int.reducePow, Int.reduceEq, ok, bok, deref, mkL, lstW, tupW, dats, Option.map_some, appendW, insertW, setL, isL, listW, tupleW, lenW, absW, intC, maxW, minW, idxW, addW, subW_e, modW_e, divW_e, powW_e, mulW, intW, lt_e, gt_e, le_e, ge_e, ltW, allW_e, anyW_e, sumW_e, lW, setW, lstAt, cutW, backW, isW, isiW, iLT_none, iLT_bool, iLT_int, iLT_str, iLT_list, iLT_tup, iL_none, iL_bool, iL_int, iL_str, iL_list, iL_tup, iT_none, iT_bool, iT_int, iT_str, iT_list, iT_tup, iS_none, iS_bool, iS_int, iS_str, iS_list, iS_tup, iI_none, iI_bool, iI_int, iI_str, iI_list, iI_tup, iB_none, iB_bool, iB_int, iB_str, iB_list, iB_tup, Bool.false_eq_true, reduceCtorEq, Bool.not_true, Bool.not_false, decide_true, decide_false, List.zip_cons_cons, List.zip_nil_left, List.foldl_cons, List.foldl_nil, and_self, and_true, true_and, Bool.and_true, Bool.true_and, Bool.or_true, Bool.true_or, *])
end DL
set_option maxRecDepth 100000
namespace DL
open PySem L2
variable [HW]
end DL
set_option maxRecDepth 100000
set_option maxHeartbeats 400000
namespace DL
open PySem L2
variable [HW]
end DL
set_option maxRecDepth 100000
set_option maxHeartbeats 400000
namespace DL
open PySem L2
variable [HW]
section
variable {ρ ρ1 : DL.Env} {h h1 h2 : Hh}
theorem isE_run {ks : List (Nat × Addr)} {ys : List Nat} {k : Nat} {C : Addr} {fs : List (Str × D)} {b : Bool} {F : EM} (e : F ρ h = some (.exc k C fs, h1)) (m : (k, C) ∈ ks) (hb : decide (k ∈ ys) = b) : f1 (isE ks ys) F ρ h = some (.dat (.bool b), h1) := by
  unfold f1
  simp only [e, obnd, isE, if_pos m, hb]
  rfl
end
end DL
set_option maxHeartbeats 400000
namespace LW
open PySem L2 DL
variable [HW]
noncomputable def m__law_kinds (T : Nat → Addr) : FM := fnM false 1 2 (sSeq (sAsg (fA (lstW false) (fCons (f1 (isE [(8, T 8), (9, T 9), (10, T 10), (11, T 11), (12, T 12), (13, T 13), (14, T 14), (15, T 15), (16, T 16), (17, T 17), (18, T 18), (19, T 19)] [8]) (fVar 0)) (fCons (f1 (isE [(8, T 8), (9, T 9), (10, T 10), (11, T 11), (12, T 12), (13, T 13), (14, T 14), (15, T 15), (16, T 16), (17, T 17), (18, T 18), (19, T 19)] [9]) (fVar 0)) (fCons (f1 (isE [(8, T 8), (9, T 9), (10, T 10), (11, T 11), (12, T 12), (13, T 13), (14, T 14), (15, T 15), (16, T 16), (17, T 17), (18, T 18), (19, T 19)] [10]) (fVar 0)) (fNil))))) (gN 1))
    (sSeq (sAsg (f2 (addW false) (fVar 1) (fA (lstW false) (fCons (f1 (isE [(8, T 8), (9, T 9), (10, T 10), (11, T 11), (12, T 12), (13, T 13), (14, T 14), (15, T 15), (16, T 16), (17, T 17), (18, T 18), (19, T 19)] [11]) (fVar 0)) (fCons (f1 (isE [(8, T 8), (9, T 9), (10, T 10), (11, T 11), (12, T 12), (13, T 13), (14, T 14), (15, T 15), (16, T 16), (17, T 17), (18, T 18), (19, T 19)] [12]) (fVar 0)) (fCons (f1 (isE [(8, T 8), (9, T 9), (10, T 10), (11, T 11), (12, T 12), (13, T 13), (14, T 14), (15, T 15), (16, T 16), (17, T 17), (18, T 18), (19, T 19)] [13]) (fVar 0)) (fNil)))))) (gN 1))
    (sSeq (sAsg (f2 (addW false) (fVar 1) (fA (lstW false) (fCons (f1 (isE [(8, T 8), (9, T 9), (10, T 10), (11, T 11), (12, T 12), (13, T 13), (14, T 14), (15, T 15), (16, T 16), (17, T 17), (18, T 18), (19, T 19)] [14]) (fVar 0)) (fCons (f1 (isE [(8, T 8), (9, T 9), (10, T 10), (11, T 11), (12, T 12), (13, T 13), (14, T 14), (15, T 15), (16, T 16), (17, T 17), (18, T 18), (19, T 19)] [15]) (fVar 0)) (fCons (f1 (isE [(8, T 8), (9, T 9), (10, T 10), (11, T 11), (12, T 12), (13, T 13), (14, T 14), (15, T 15), (16, T 16), (17, T 17), (18, T 18), (19, T 19)] [16]) (fVar 0)) (fNil)))))) (gN 1))
    (sRet (f2 (addW false) (fVar 1) (fA (lstW false) (fCons (f1 (isE [(8, T 8), (9, T 9), (10, T 10), (11, T 11), (12, T 12), (13, T 13), (14, T 14), (15, T 15), (16, T 16), (17, T 17), (18, T 18), (19, T 19)] [17]) (fVar 0)) (fCons (f1 (isE [(8, T 8), (9, T 9), (10, T 10), (11, T 11), (12, T 12), (13, T 13), (14, T 14), (15, T 15), (16, T 16), (17, T 17), (18, T 18), (19, T 19)] [18]) (fVar 0)) (fCons (f1 (isE [(8, T 8), (9, T 9), (10, T 10), (11, T 11), (12, T 12), (13, T 13), (14, T 14), (15, T 15), (16, T 16), (17, T 17), (18, T 18), (19, T 19)] [19]) (fVar 0)) (fNil))))))))))
noncomputable def m__law_bases (T : Nat → Addr) : FM := fnM false 1 2 (sSeq (sAsg (fA (lstW false) (fCons (f1 (isE [(8, T 8), (9, T 9), (10, T 10), (11, T 11), (12, T 12), (13, T 13), (14, T 14), (15, T 15), (16, T 16), (17, T 17), (18, T 18), (19, T 19)] [8, 9, 10, 11, 12]) (fVar 0)) (fCons (f1 (isE [(8, T 8), (9, T 9), (10, T 10), (11, T 11), (12, T 12), (13, T 13), (14, T 14), (15, T 15), (16, T 16), (17, T 17), (18, T 18), (19, T 19)] [13, 14, 15, 16]) (fVar 0)) (fCons (f1 (isE [(8, T 8), (9, T 9), (10, T 10), (11, T 11), (12, T 12), (13, T 13), (14, T 14), (15, T 15), (16, T 16), (17, T 17), (18, T 18), (19, T 19)] [17, 18, 19]) (fVar 0)) (fNil))))) (gN 1))
    (sRet (f2 (addW false) (fVar 1) (fA (lstW false) (fCons (f1 (isE [(8, T 8), (9, T 9), (10, T 10), (11, T 11), (12, T 12), (13, T 13), (14, T 14), (15, T 15), (16, T 16), (17, T 17), (18, T 18), (19, T 19)] []) (fVar 0)) (fNil))))))
noncomputable def m__law_made_right (T : Nat → Addr) : FM := fnM false 4 9 (sSeq (sIf (bNot (fB (fA (m__law_same 12) (fCons (fA (lstW false) (fCons (f1 (xfW [(9, T 9), (13, T 13), (18, T 18)] "name") (f2 idxO (fVar 0) (fC (.int 1)))) (fCons (f1 (xfW [(10, T 10), (12, T 12)] "at") (f2 idxO (fVar 0) (fC (.int 2)))) (fCons (f1 (xfW [(11, T 11)] "row") (f2 idxO (fVar 0) (fC (.int 3)))) (fCons (f1 (xfW [(10, T 10), (12, T 12)] "at") (f2 idxO (fVar 0) (fC (.int 4)))) (fCons (f1 (xfW [(9, T 9), (13, T 13), (18, T 18)] "name") (f2 idxO (fVar 0) (fC (.int 5)))) (fNil))))))) (fCons (f2 (addW false) (f2 (addW false) (fA (lstW false) (fCons (fVar 2) (fNil))) (fSl false (fVar 1) (oNone) (oSome (fC (.int 3))))) (fA (lstW false) (fCons (fVar 2) (fNil)))) (fNil)))))) (sRet (fC (.bool false))) (sSkip))
    (sSeq (sAsg (fA (lstW false) (fCons (f1 (xfW [(14, T 14)] "place") (f2 idxO (fVar 0) (fC (.int 6)))) (fCons (f1 (xfW [(15, T 15)] "number") (f2 idxO (fVar 0) (fC (.int 7)))) (fCons (f1 (xfW [(16, T 16)] "many") (f2 idxO (fVar 0) (fC (.int 8)))) (fCons (f1 (xfW [(17, T 17)] "ring") (f2 idxO (fVar 0) (fC (.int 9)))) (fCons (f1 (xfW [(9, T 9), (13, T 13), (18, T 18)] "name") (f2 idxO (fVar 0) (fC (.int 10)))) (fNil))))))) (gN 4))
    (sSeq (sIf (bNot (fB (fA (m__law_same 12) (fCons (fVar 4) (fCons (f2 (addW false) (fSl false (fVar 1) (oSome (fC (.int 3))) (oSome (fC (.int 6)))) (fA (lstW false) (fCons (fVar 3) (fCons (fVar 2) (fNil))))) (fNil)))))) (sRet (fC (.bool false))) (sSkip))
    (sSeq (sForE (enumO (fCons (fVar 0) (fNil))) (gCw (gN 5) (gCw (gN 6) (gEw)))
    (sSeq (sAsg (f2 (addW false) (fA intC (fCons (f2 gt_W (fVar 5) (fC (.int 4))) (fNil))) (fA intC (fCons (f2 gt_W (fVar 5) (fC (.int 8))) (fNil)))) (gN 7))
    (sIf (bOr (fB (f2 (eqW true) (fA (m__law_kinds T) (fCons (fVar 6) (fNil))) (fLc false (rng1I (fCons (fC (.int 12)) (fNil))) (gN 8) (bYes) (f2 (eqW false) (fVar 8) (fVar 5)) [8]))) (fB (f2 (eqW true) (fA (m__law_bases T) (fCons (fVar 6) (fNil))) (fLc false (rng1I (fCons (fC (.int 4)) (fNil))) (gN 8) (bYes) (f2 (eqW false) (fVar 8) (fVar 7)) [8])))) (sRet (fC (.bool false))) (sSkip))))
    (sRet (fC (.bool true)))))))
noncomputable def m__law_right (T : Nat → Addr) : FM := fnM false 1 7 (sSeq (sAsg (fLc false (rng1I (fCons (fC (.int 6)) (fNil))) (gN 6) (bYes) (f2 subW (fA (m__law_take) (fCons (fVar 0) (fCons (f2 powW (fC (.int 10)) (fC (.int 6))) (fNil)))) (fC (.int 1))) [6]) (gN 1))
    (sSeq (sPar (fCons (fA (m__law_pick) (fCons (fVar 0) (fCons (fA (lstW false) (fCons (fC (.str "a")) (fCons (fC (.str "")) (fCons (fC (.str "A b")) (fCons (fC (.str "zzzzzz")) (fNil)))))) (fNil)))) (fCons (f2 idxW (fA (lstW false) (fCons (fA (lstW false) (fCons (fC (.str "a")) (fCons (fC (.str "b")) (fNil)))) (fCons (fA (lstW false) (fCons (fC (.str "b")) (fCons (fC (.str "c")) (fCons (fC (.str "a")) (fNil))))) (fNil)))) (fA (m__law_take) (fCons (fVar 0) (fCons (fC (.int 2)) (fNil))))) (fNil))) [4, 5])
    (sSeq (sAsg (fA objW (fCons (fNewE0 8 (T 8)) (fCons (fNewE 9 (T 9) "name" (fVar 4)) (fCons (fNewE 10 (T 10) "at" (f2 idxW (fVar 1) (fC (.int 0)))) (fCons (fNewE 11 (T 11) "row" (f2 idxW (fVar 1) (fC (.int 1)))) (fCons (fNewE 12 (T 12) "at" (f2 idxW (fVar 1) (fC (.int 2)))) (fCons (fNewE 13 (T 13) "name" (fVar 4)) (fCons (fNewE 14 (T 14) "place" (f2 idxW (fVar 1) (fC (.int 3)))) (fNil))))))))) (gN 2))
    (sSeq (sAsg (f2 addO (fVar 2) (fA objW (fCons (fNewE 15 (T 15) "number" (f2 idxW (fVar 1) (fC (.int 4)))) (fCons (fNewE 16 (T 16) "many" (f2 idxW (fVar 1) (fC (.int 5)))) (fCons (fNewE 17 (T 17) "ring" (fVar 5)) (fCons (fNewE 18 (T 18) "name" (fVar 4)) (fCons (fNewE0 19 (T 19)) (fNil)))))))) (gN 2))
    (sSeq (sAsg (fA objW (fCons (fNewE0 8 (T 8)) (fCons (fNewEK 9 (T 9) "name" (fCons (fVar 4) (fNil))) (fCons (fNewEK 10 (T 10) "at" (fCons (f2 idxW (fVar 1) (fC (.int 0))) (fNil))) (fCons (fNewEK 11 (T 11) "row" (fCons (f2 idxW (fVar 1) (fC (.int 1))) (fNil))) (fCons (fNewEK 12 (T 12) "at" (fCons (f2 idxW (fVar 1) (fC (.int 2))) (fNil))) (fNil))))))) (gN 3))
    (sSeq (sAsg (f2 addO (fVar 3) (fA objW (fCons (fNewEK 13 (T 13) "name" (fCons (fVar 4) (fNil))) (fCons (fNewEK 14 (T 14) "place" (fCons (f2 idxW (fVar 1) (fC (.int 3))) (fNil))) (fCons (fNewEK 15 (T 15) "number" (fCons (f2 idxW (fVar 1) (fC (.int 4))) (fNil))) (fCons (fNewEK 16 (T 16) "many" (fCons (f2 idxW (fVar 1) (fC (.int 5))) (fNil))) (fNil))))))) (gN 3))
    (sSeq (sAsg (f2 addO (fVar 3) (fA objW (fCons (fNewEK 17 (T 17) "ring" (fCons (fVar 5) (fNil))) (fCons (fNewEK 18 (T 18) "name" (fCons (fVar 4) (fNil))) (fCons (fNewE0 19 (T 19)) (fNil)))))) (gN 3))
    (sRet (fAnd (fA (m__law_made_right T) (fCons (fVar 2) (fCons (fVar 1) (fCons (fVar 4) (fCons (fVar 5) (fNil)))))) (fA (m__law_made_right T) (fCons (fVar 3) (fCons (fVar 1) (fCons (fVar 4) (fCons (fVar 5) (fNil)))))))))))))))
noncomputable def m_law (T : Nat → Addr) : FM := fnM false 1 3 (sSeq (sAsg (fA (m__law_folded) (fCons (fVar 0) (fCons (fC (.int 4)) (fNil)))) (gN 1))
    (sRet (fA allW (fCons (fLc false (rng1I (fCons (fA lenW (fCons (fVar 1) (fNil))) (fNil))) (gN 2) (bYes) (fA (m__law_right T) (fCons (fA (m__law_box) (fCons (fVar 1) (fCons (fVar 2) (fNil)))) (fNil))) [2]) (fNil)))))
theorem ifN {t : BM} {a : SM} {ρ : DL.Env} {h h1 : Hh} (e : t ρ h = some (false, h1)) : sIf t a sSkip ρ h = some (.nx ρ, h1) := by
  unfold sIf
  simp only [e, sbnd, Bool.false_eq_true, if_false, sSkip]
section
variable {T : Nat → Addr} {h : Hh}
abbrev ks12 (T : Nat → Addr) : List (Nat × Addr) := [(8, T 8), (9, T 9), (10, T 10), (11, T 11), (12, T 12), (13, T 13), (14, T 14), (15, T 15), (16, T 16), (17, T 17), (18, T 18), (19, T 19)]
theorem kinds_run {k : Nat} {fs : List (Str × D)} (m : (k, T k) ∈ ks12 T) : m__law_kinds T [.exc k (T k) fs] h = some (.dat (.list [.bool (decide (k ∈ ([8] : List Nat))), .bool (decide (k ∈ ([9] : List Nat))), .bool (decide (k ∈ ([10] : List Nat))), .bool (decide (k ∈ ([11] : List Nat))), .bool (decide (k ∈ ([12] : List Nat))), .bool (decide (k ∈ ([13] : List Nat))), .bool (decide (k ∈ ([14] : List Nat))), .bool (decide (k ∈ ([15] : List Nat))), .bool (decide (k ∈ ([16] : List Nat))), .bool (decide (k ∈ ([17] : List Nat))), .bool (decide (k ∈ ([18] : List Nat))), .bool (decide (k ∈ ([19] : List Nat)))]), h) := by
  obtain ⟨X, hX⟩ : ∃ X : W, X = .exc k (T k) fs := ⟨_, rfl⟩
  have iE : ∀ {ys : List Nat} {ρ : DL.Env}, ρ[0]? = some (some X) → f1 (isE (ks12 T) ys) (fVar 0) ρ h = some (.dat (.bool (decide (k ∈ ys))), h) := fun {ys ρ} e => isE_run (k := k) (C := T k) (fs := fs) (by unfold fVar; rw [e, hX]) m rfl
  rw [← hX]
  unfold m__law_kinds
  refine fnM_rt (h' := h) (w := .dat (.list [.bool (decide (k ∈ ([8] : List Nat))), .bool (decide (k ∈ ([9] : List Nat))), .bool (decide (k ∈ ([10] : List Nat))), .bool (decide (k ∈ ([11] : List Nat))), .bool (decide (k ∈ ([12] : List Nat))), .bool (decide (k ∈ ([13] : List Nat))), .bool (decide (k ∈ ([14] : List Nat))), .bool (decide (k ∈ ([15] : List Nat))), .bool (decide (k ∈ ([16] : List Nat))), .bool (decide (k ∈ ([17] : List Nat))), .bool (decide (k ∈ ([18] : List Nat))), .bool (decide (k ∈ ([19] : List Nat)))])) ?_ rfl leave_same'
  show sSeq _ _ [some X, none] h = _
  rw [zA (ρ1 := [some X, some (.dat (.list [.bool (decide (k ∈ ([8] : List Nat))), .bool (decide (k ∈ ([9] : List Nat))), .bool (decide (k ∈ ([10] : List Nat)))]))]) (w := .dat (.list [.bool (decide (k ∈ ([8] : List Nat))), .bool (decide (k ∈ ([9] : List Nat))), .bool (decide (k ∈ ([10] : List Nat)))])) (xA (xC (iE rfl) (xC (iE rfl) (xC (iE rfl) (xN)))) (xLst rfl (by show 3 ≤ sizeLine; decide))) rfl]
  rw [zA (ρ1 := [some X, some (.dat (.list [.bool (decide (k ∈ ([8] : List Nat))), .bool (decide (k ∈ ([9] : List Nat))), .bool (decide (k ∈ ([10] : List Nat))), .bool (decide (k ∈ ([11] : List Nat))), .bool (decide (k ∈ ([12] : List Nat))), .bool (decide (k ∈ ([13] : List Nat)))]))]) (w := .dat (.list [.bool (decide (k ∈ ([8] : List Nat))), .bool (decide (k ∈ ([9] : List Nat))), .bool (decide (k ∈ ([10] : List Nat))), .bool (decide (k ∈ ([11] : List Nat))), .bool (decide (k ∈ ([12] : List Nat))), .bool (decide (k ∈ ([13] : List Nat)))])) (x2 (h1 := h) rfl (xA (xC (iE rfl) (xC (iE rfl) (xC (iE rfl) (xN)))) (xLst rfl (by show 3 ≤ sizeLine; decide))) (xAdd (by show 3 + 3 ≤ sizeLine; decide))) rfl]
  rw [zA (ρ1 := [some X, some (.dat (.list [.bool (decide (k ∈ ([8] : List Nat))), .bool (decide (k ∈ ([9] : List Nat))), .bool (decide (k ∈ ([10] : List Nat))), .bool (decide (k ∈ ([11] : List Nat))), .bool (decide (k ∈ ([12] : List Nat))), .bool (decide (k ∈ ([13] : List Nat))), .bool (decide (k ∈ ([14] : List Nat))), .bool (decide (k ∈ ([15] : List Nat))), .bool (decide (k ∈ ([16] : List Nat)))]))]) (w := .dat (.list [.bool (decide (k ∈ ([8] : List Nat))), .bool (decide (k ∈ ([9] : List Nat))), .bool (decide (k ∈ ([10] : List Nat))), .bool (decide (k ∈ ([11] : List Nat))), .bool (decide (k ∈ ([12] : List Nat))), .bool (decide (k ∈ ([13] : List Nat))), .bool (decide (k ∈ ([14] : List Nat))), .bool (decide (k ∈ ([15] : List Nat))), .bool (decide (k ∈ ([16] : List Nat)))])) (x2 (h1 := h) rfl (xA (xC (iE rfl) (xC (iE rfl) (xC (iE rfl) (xN)))) (xLst rfl (by show 3 ≤ sizeLine; decide))) (xAdd (by show 6 + 3 ≤ sizeLine; decide))) rfl]
  exact zR (x2 (h1 := h) rfl (xA (xC (iE rfl) (xC (iE rfl) (xC (iE rfl) (xN)))) (xLst rfl (by show 3 ≤ sizeLine; decide))) (xAdd (by show 9 + 3 ≤ sizeLine; decide)))
theorem bases_run {k : Nat} {fs : List (Str × D)} (m : (k, T k) ∈ ks12 T) : m__law_bases T [.exc k (T k) fs] h = some (.dat (.list [.bool (decide (k ∈ ([8, 9, 10, 11, 12] : List Nat))), .bool (decide (k ∈ ([13, 14, 15, 16] : List Nat))), .bool (decide (k ∈ ([17, 18, 19] : List Nat))), .bool (decide (k ∈ ([] : List Nat)))]), h) := by
  obtain ⟨X, hX⟩ : ∃ X : W, X = .exc k (T k) fs := ⟨_, rfl⟩
  have iE : ∀ {ys : List Nat} {ρ : DL.Env}, ρ[0]? = some (some X) → f1 (isE (ks12 T) ys) (fVar 0) ρ h = some (.dat (.bool (decide (k ∈ ys))), h) := fun {ys ρ} e => isE_run (k := k) (C := T k) (fs := fs) (by unfold fVar; rw [e, hX]) m rfl
  rw [← hX]
  unfold m__law_bases
  refine fnM_rt (h' := h) (w := .dat (.list [.bool (decide (k ∈ ([8, 9, 10, 11, 12] : List Nat))), .bool (decide (k ∈ ([13, 14, 15, 16] : List Nat))), .bool (decide (k ∈ ([17, 18, 19] : List Nat))), .bool (decide (k ∈ ([] : List Nat)))])) ?_ rfl leave_same'
  show sSeq _ _ [some X, none] h = _
  rw [zA (ρ1 := [some X, some (.dat (.list [.bool (decide (k ∈ ([8, 9, 10, 11, 12] : List Nat))), .bool (decide (k ∈ ([13, 14, 15, 16] : List Nat))), .bool (decide (k ∈ ([17, 18, 19] : List Nat)))]))]) (w := .dat (.list [.bool (decide (k ∈ ([8, 9, 10, 11, 12] : List Nat))), .bool (decide (k ∈ ([13, 14, 15, 16] : List Nat))), .bool (decide (k ∈ ([17, 18, 19] : List Nat)))])) (xA (xC (iE rfl) (xC (iE rfl) (xC (iE rfl) (xN)))) (xLst rfl (by show 3 ≤ sizeLine; decide))) rfl]
  exact zR (x2 (h1 := h) rfl (xA (xC (iE rfl) (xN)) (xLst rfl (by show 1 ≤ sizeLine; decide))) (xAdd (by show 3 + 1 ≤ sizeLine; decide)))
noncomputable abbrev chkB (T : Nat → Addr) : SM := (sSeq (sAsg (f2 (addW false) (fA intC (fCons (f2 gt_W (fVar 5) (fC (.int 4))) (fNil))) (fA intC (fCons (f2 gt_W (fVar 5) (fC (.int 8))) (fNil)))) (gN 7))
    (sIf (bOr (fB (f2 (eqW true) (fA (m__law_kinds T) (fCons (fVar 6) (fNil))) (fLc false (rng1I (fCons (fC (.int 12)) (fNil))) (gN 8) (bYes) (f2 (eqW false) (fVar 8) (fVar 5)) [8]))) (fB (f2 (eqW true) (fA (m__law_bases T) (fCons (fVar 6) (fNil))) (fLc false (rng1I (fCons (fC (.int 4)) (fNil))) (gN 8) (bYes) (f2 (eqW false) (fVar 8) (fVar 7)) [8])))) (sRet (fC (.bool false))) (sSkip)))
abbrev e92 (O : W) (D1 D2 D3 : D) (v4 v5 v6 v7 : Option W) : DL.Env := [some O, some (.dat D1), some (.dat D2), some (.dat D3), v4, v5, v6, v7, none]
theorem chk_0 {O : W} {D1 D2 D3 : D} {v4 v7 : Option W} {fs : List (Str × D)} : chkB T (e92 O D1 D2 D3 v4 (some (.dat (.int 0))) (some (.exc 8 (T 8) fs)) v7) h = some (.nx (e92 O D1 D2 D3 v4 (some (.dat (.int 0))) (some (.exc 8 (T 8) fs)) (some (.dat (.int 0)))), h) := by
  have m : (8, T 8) ∈ ks12 T := by simp
  have b0 : f2 (addW false) (fA intC (fCons (f2 gt_W (fVar 5) (fC (.int 4))) (fNil))) (fA intC (fCons (f2 gt_W (fVar 5) (fC (.int 8))) (fNil))) (e92 O D1 D2 D3 v4 (some (.dat (.int 0))) (some (.exc 8 (T 8) fs)) v7) h = some (.dat (.int 0), h) := rfl
  have k1 : fA (m__law_kinds T) (fCons (fVar 6) (fNil)) (e92 O D1 D2 D3 v4 (some (.dat (.int 0))) (some (.exc 8 (T 8) fs)) (some (.dat (.int 0)))) h = some (.dat (.list [.bool true, .bool false, .bool false, .bool false, .bool false, .bool false, .bool false, .bool false, .bool false, .bool false, .bool false, .bool false]), h) := xA (xC (h1 := h) rfl xN) (kinds_run m)
  have k2 : (fLc false (rng1I (fCons (fC (.int 12)) (fNil))) (gN 8) (bYes) (f2 (eqW false) (fVar 8) (fVar 5)) [8]) (e92 O D1 D2 D3 v4 (some (.dat (.int 0))) (some (.exc 8 (T 8) fs)) (some (.dat (.int 0)))) h = some (.dat (.list [.bool true, .bool false, .bool false, .bool false, .bool false, .bool false, .bool false, .bool false, .bool false, .bool false, .bool false, .bool false]), h) := rfl
  have k3 : fA (m__law_bases T) (fCons (fVar 6) (fNil)) (e92 O D1 D2 D3 v4 (some (.dat (.int 0))) (some (.exc 8 (T 8) fs)) (some (.dat (.int 0)))) h = some (.dat (.list [.bool true, .bool false, .bool false, .bool false]), h) := xA (xC (h1 := h) rfl xN) (bases_run m)
  have k4 : (fLc false (rng1I (fCons (fC (.int 4)) (fNil))) (gN 8) (bYes) (f2 (eqW false) (fVar 8) (fVar 7)) [8]) (e92 O D1 D2 D3 v4 (some (.dat (.int 0))) (some (.exc 8 (T 8) fs)) (some (.dat (.int 0)))) h = some (.dat (.list [.bool true, .bool false, .bool false, .bool false]), h) := rfl
  unfold chkB
  rw [zA (ρ1 := e92 O D1 D2 D3 v4 (some (.dat (.int 0))) (some (.exc 8 (T 8) fs)) (some (.dat (.int 0)))) b0 rfl]
  exact ifN (xO (xB (x2 k1 k2 (eqW_list (by decide)))) (xB (x2 k3 k4 (eqW_list (by decide)))))
theorem chk_1 {O : W} {D1 D2 D3 : D} {v4 v7 : Option W} {fs : List (Str × D)} : chkB T (e92 O D1 D2 D3 v4 (some (.dat (.int 1))) (some (.exc 9 (T 9) fs)) v7) h = some (.nx (e92 O D1 D2 D3 v4 (some (.dat (.int 1))) (some (.exc 9 (T 9) fs)) (some (.dat (.int 0)))), h) := by
  have m : (9, T 9) ∈ ks12 T := by simp
  have b0 : f2 (addW false) (fA intC (fCons (f2 gt_W (fVar 5) (fC (.int 4))) (fNil))) (fA intC (fCons (f2 gt_W (fVar 5) (fC (.int 8))) (fNil))) (e92 O D1 D2 D3 v4 (some (.dat (.int 1))) (some (.exc 9 (T 9) fs)) v7) h = some (.dat (.int 0), h) := rfl
  have k1 : fA (m__law_kinds T) (fCons (fVar 6) (fNil)) (e92 O D1 D2 D3 v4 (some (.dat (.int 1))) (some (.exc 9 (T 9) fs)) (some (.dat (.int 0)))) h = some (.dat (.list [.bool false, .bool true, .bool false, .bool false, .bool false, .bool false, .bool false, .bool false, .bool false, .bool false, .bool false, .bool false]), h) := xA (xC (h1 := h) rfl xN) (kinds_run m)
  have k2 : (fLc false (rng1I (fCons (fC (.int 12)) (fNil))) (gN 8) (bYes) (f2 (eqW false) (fVar 8) (fVar 5)) [8]) (e92 O D1 D2 D3 v4 (some (.dat (.int 1))) (some (.exc 9 (T 9) fs)) (some (.dat (.int 0)))) h = some (.dat (.list [.bool false, .bool true, .bool false, .bool false, .bool false, .bool false, .bool false, .bool false, .bool false, .bool false, .bool false, .bool false]), h) := rfl
  have k3 : fA (m__law_bases T) (fCons (fVar 6) (fNil)) (e92 O D1 D2 D3 v4 (some (.dat (.int 1))) (some (.exc 9 (T 9) fs)) (some (.dat (.int 0)))) h = some (.dat (.list [.bool true, .bool false, .bool false, .bool false]), h) := xA (xC (h1 := h) rfl xN) (bases_run m)
  have k4 : (fLc false (rng1I (fCons (fC (.int 4)) (fNil))) (gN 8) (bYes) (f2 (eqW false) (fVar 8) (fVar 7)) [8]) (e92 O D1 D2 D3 v4 (some (.dat (.int 1))) (some (.exc 9 (T 9) fs)) (some (.dat (.int 0)))) h = some (.dat (.list [.bool true, .bool false, .bool false, .bool false]), h) := rfl
  unfold chkB
  rw [zA (ρ1 := e92 O D1 D2 D3 v4 (some (.dat (.int 1))) (some (.exc 9 (T 9) fs)) (some (.dat (.int 0)))) b0 rfl]
  exact ifN (xO (xB (x2 k1 k2 (eqW_list (by decide)))) (xB (x2 k3 k4 (eqW_list (by decide)))))
theorem chk_2 {O : W} {D1 D2 D3 : D} {v4 v7 : Option W} {fs : List (Str × D)} : chkB T (e92 O D1 D2 D3 v4 (some (.dat (.int 2))) (some (.exc 10 (T 10) fs)) v7) h = some (.nx (e92 O D1 D2 D3 v4 (some (.dat (.int 2))) (some (.exc 10 (T 10) fs)) (some (.dat (.int 0)))), h) := by
  have m : (10, T 10) ∈ ks12 T := by simp
  have b0 : f2 (addW false) (fA intC (fCons (f2 gt_W (fVar 5) (fC (.int 4))) (fNil))) (fA intC (fCons (f2 gt_W (fVar 5) (fC (.int 8))) (fNil))) (e92 O D1 D2 D3 v4 (some (.dat (.int 2))) (some (.exc 10 (T 10) fs)) v7) h = some (.dat (.int 0), h) := rfl
  have k1 : fA (m__law_kinds T) (fCons (fVar 6) (fNil)) (e92 O D1 D2 D3 v4 (some (.dat (.int 2))) (some (.exc 10 (T 10) fs)) (some (.dat (.int 0)))) h = some (.dat (.list [.bool false, .bool false, .bool true, .bool false, .bool false, .bool false, .bool false, .bool false, .bool false, .bool false, .bool false, .bool false]), h) := xA (xC (h1 := h) rfl xN) (kinds_run m)
  have k2 : (fLc false (rng1I (fCons (fC (.int 12)) (fNil))) (gN 8) (bYes) (f2 (eqW false) (fVar 8) (fVar 5)) [8]) (e92 O D1 D2 D3 v4 (some (.dat (.int 2))) (some (.exc 10 (T 10) fs)) (some (.dat (.int 0)))) h = some (.dat (.list [.bool false, .bool false, .bool true, .bool false, .bool false, .bool false, .bool false, .bool false, .bool false, .bool false, .bool false, .bool false]), h) := rfl
  have k3 : fA (m__law_bases T) (fCons (fVar 6) (fNil)) (e92 O D1 D2 D3 v4 (some (.dat (.int 2))) (some (.exc 10 (T 10) fs)) (some (.dat (.int 0)))) h = some (.dat (.list [.bool true, .bool false, .bool false, .bool false]), h) := xA (xC (h1 := h) rfl xN) (bases_run m)
  have k4 : (fLc false (rng1I (fCons (fC (.int 4)) (fNil))) (gN 8) (bYes) (f2 (eqW false) (fVar 8) (fVar 7)) [8]) (e92 O D1 D2 D3 v4 (some (.dat (.int 2))) (some (.exc 10 (T 10) fs)) (some (.dat (.int 0)))) h = some (.dat (.list [.bool true, .bool false, .bool false, .bool false]), h) := rfl
  unfold chkB
  rw [zA (ρ1 := e92 O D1 D2 D3 v4 (some (.dat (.int 2))) (some (.exc 10 (T 10) fs)) (some (.dat (.int 0)))) b0 rfl]
  exact ifN (xO (xB (x2 k1 k2 (eqW_list (by decide)))) (xB (x2 k3 k4 (eqW_list (by decide)))))
theorem chk_3 {O : W} {D1 D2 D3 : D} {v4 v7 : Option W} {fs : List (Str × D)} : chkB T (e92 O D1 D2 D3 v4 (some (.dat (.int 3))) (some (.exc 11 (T 11) fs)) v7) h = some (.nx (e92 O D1 D2 D3 v4 (some (.dat (.int 3))) (some (.exc 11 (T 11) fs)) (some (.dat (.int 0)))), h) := by
  have m : (11, T 11) ∈ ks12 T := by simp
  have b0 : f2 (addW false) (fA intC (fCons (f2 gt_W (fVar 5) (fC (.int 4))) (fNil))) (fA intC (fCons (f2 gt_W (fVar 5) (fC (.int 8))) (fNil))) (e92 O D1 D2 D3 v4 (some (.dat (.int 3))) (some (.exc 11 (T 11) fs)) v7) h = some (.dat (.int 0), h) := rfl
  have k1 : fA (m__law_kinds T) (fCons (fVar 6) (fNil)) (e92 O D1 D2 D3 v4 (some (.dat (.int 3))) (some (.exc 11 (T 11) fs)) (some (.dat (.int 0)))) h = some (.dat (.list [.bool false, .bool false, .bool false, .bool true, .bool false, .bool false, .bool false, .bool false, .bool false, .bool false, .bool false, .bool false]), h) := xA (xC (h1 := h) rfl xN) (kinds_run m)
  have k2 : (fLc false (rng1I (fCons (fC (.int 12)) (fNil))) (gN 8) (bYes) (f2 (eqW false) (fVar 8) (fVar 5)) [8]) (e92 O D1 D2 D3 v4 (some (.dat (.int 3))) (some (.exc 11 (T 11) fs)) (some (.dat (.int 0)))) h = some (.dat (.list [.bool false, .bool false, .bool false, .bool true, .bool false, .bool false, .bool false, .bool false, .bool false, .bool false, .bool false, .bool false]), h) := rfl
  have k3 : fA (m__law_bases T) (fCons (fVar 6) (fNil)) (e92 O D1 D2 D3 v4 (some (.dat (.int 3))) (some (.exc 11 (T 11) fs)) (some (.dat (.int 0)))) h = some (.dat (.list [.bool true, .bool false, .bool false, .bool false]), h) := xA (xC (h1 := h) rfl xN) (bases_run m)
  have k4 : (fLc false (rng1I (fCons (fC (.int 4)) (fNil))) (gN 8) (bYes) (f2 (eqW false) (fVar 8) (fVar 7)) [8]) (e92 O D1 D2 D3 v4 (some (.dat (.int 3))) (some (.exc 11 (T 11) fs)) (some (.dat (.int 0)))) h = some (.dat (.list [.bool true, .bool false, .bool false, .bool false]), h) := rfl
  unfold chkB
  rw [zA (ρ1 := e92 O D1 D2 D3 v4 (some (.dat (.int 3))) (some (.exc 11 (T 11) fs)) (some (.dat (.int 0)))) b0 rfl]
  exact ifN (xO (xB (x2 k1 k2 (eqW_list (by decide)))) (xB (x2 k3 k4 (eqW_list (by decide)))))
theorem chk_4 {O : W} {D1 D2 D3 : D} {v4 v7 : Option W} {fs : List (Str × D)} : chkB T (e92 O D1 D2 D3 v4 (some (.dat (.int 4))) (some (.exc 12 (T 12) fs)) v7) h = some (.nx (e92 O D1 D2 D3 v4 (some (.dat (.int 4))) (some (.exc 12 (T 12) fs)) (some (.dat (.int 0)))), h) := by
  have m : (12, T 12) ∈ ks12 T := by simp
  have b0 : f2 (addW false) (fA intC (fCons (f2 gt_W (fVar 5) (fC (.int 4))) (fNil))) (fA intC (fCons (f2 gt_W (fVar 5) (fC (.int 8))) (fNil))) (e92 O D1 D2 D3 v4 (some (.dat (.int 4))) (some (.exc 12 (T 12) fs)) v7) h = some (.dat (.int 0), h) := rfl
  have k1 : fA (m__law_kinds T) (fCons (fVar 6) (fNil)) (e92 O D1 D2 D3 v4 (some (.dat (.int 4))) (some (.exc 12 (T 12) fs)) (some (.dat (.int 0)))) h = some (.dat (.list [.bool false, .bool false, .bool false, .bool false, .bool true, .bool false, .bool false, .bool false, .bool false, .bool false, .bool false, .bool false]), h) := xA (xC (h1 := h) rfl xN) (kinds_run m)
  have k2 : (fLc false (rng1I (fCons (fC (.int 12)) (fNil))) (gN 8) (bYes) (f2 (eqW false) (fVar 8) (fVar 5)) [8]) (e92 O D1 D2 D3 v4 (some (.dat (.int 4))) (some (.exc 12 (T 12) fs)) (some (.dat (.int 0)))) h = some (.dat (.list [.bool false, .bool false, .bool false, .bool false, .bool true, .bool false, .bool false, .bool false, .bool false, .bool false, .bool false, .bool false]), h) := rfl
  have k3 : fA (m__law_bases T) (fCons (fVar 6) (fNil)) (e92 O D1 D2 D3 v4 (some (.dat (.int 4))) (some (.exc 12 (T 12) fs)) (some (.dat (.int 0)))) h = some (.dat (.list [.bool true, .bool false, .bool false, .bool false]), h) := xA (xC (h1 := h) rfl xN) (bases_run m)
  have k4 : (fLc false (rng1I (fCons (fC (.int 4)) (fNil))) (gN 8) (bYes) (f2 (eqW false) (fVar 8) (fVar 7)) [8]) (e92 O D1 D2 D3 v4 (some (.dat (.int 4))) (some (.exc 12 (T 12) fs)) (some (.dat (.int 0)))) h = some (.dat (.list [.bool true, .bool false, .bool false, .bool false]), h) := rfl
  unfold chkB
  rw [zA (ρ1 := e92 O D1 D2 D3 v4 (some (.dat (.int 4))) (some (.exc 12 (T 12) fs)) (some (.dat (.int 0)))) b0 rfl]
  exact ifN (xO (xB (x2 k1 k2 (eqW_list (by decide)))) (xB (x2 k3 k4 (eqW_list (by decide)))))
theorem chk_5 {O : W} {D1 D2 D3 : D} {v4 v7 : Option W} {fs : List (Str × D)} : chkB T (e92 O D1 D2 D3 v4 (some (.dat (.int 5))) (some (.exc 13 (T 13) fs)) v7) h = some (.nx (e92 O D1 D2 D3 v4 (some (.dat (.int 5))) (some (.exc 13 (T 13) fs)) (some (.dat (.int 1)))), h) := by
  have m : (13, T 13) ∈ ks12 T := by simp
  have b0 : f2 (addW false) (fA intC (fCons (f2 gt_W (fVar 5) (fC (.int 4))) (fNil))) (fA intC (fCons (f2 gt_W (fVar 5) (fC (.int 8))) (fNil))) (e92 O D1 D2 D3 v4 (some (.dat (.int 5))) (some (.exc 13 (T 13) fs)) v7) h = some (.dat (.int 1), h) := rfl
  have k1 : fA (m__law_kinds T) (fCons (fVar 6) (fNil)) (e92 O D1 D2 D3 v4 (some (.dat (.int 5))) (some (.exc 13 (T 13) fs)) (some (.dat (.int 1)))) h = some (.dat (.list [.bool false, .bool false, .bool false, .bool false, .bool false, .bool true, .bool false, .bool false, .bool false, .bool false, .bool false, .bool false]), h) := xA (xC (h1 := h) rfl xN) (kinds_run m)
  have k2 : (fLc false (rng1I (fCons (fC (.int 12)) (fNil))) (gN 8) (bYes) (f2 (eqW false) (fVar 8) (fVar 5)) [8]) (e92 O D1 D2 D3 v4 (some (.dat (.int 5))) (some (.exc 13 (T 13) fs)) (some (.dat (.int 1)))) h = some (.dat (.list [.bool false, .bool false, .bool false, .bool false, .bool false, .bool true, .bool false, .bool false, .bool false, .bool false, .bool false, .bool false]), h) := rfl
  have k3 : fA (m__law_bases T) (fCons (fVar 6) (fNil)) (e92 O D1 D2 D3 v4 (some (.dat (.int 5))) (some (.exc 13 (T 13) fs)) (some (.dat (.int 1)))) h = some (.dat (.list [.bool false, .bool true, .bool false, .bool false]), h) := xA (xC (h1 := h) rfl xN) (bases_run m)
  have k4 : (fLc false (rng1I (fCons (fC (.int 4)) (fNil))) (gN 8) (bYes) (f2 (eqW false) (fVar 8) (fVar 7)) [8]) (e92 O D1 D2 D3 v4 (some (.dat (.int 5))) (some (.exc 13 (T 13) fs)) (some (.dat (.int 1)))) h = some (.dat (.list [.bool false, .bool true, .bool false, .bool false]), h) := rfl
  unfold chkB
  rw [zA (ρ1 := e92 O D1 D2 D3 v4 (some (.dat (.int 5))) (some (.exc 13 (T 13) fs)) (some (.dat (.int 1)))) b0 rfl]
  exact ifN (xO (xB (x2 k1 k2 (eqW_list (by decide)))) (xB (x2 k3 k4 (eqW_list (by decide)))))
theorem chk_6 {O : W} {D1 D2 D3 : D} {v4 v7 : Option W} {fs : List (Str × D)} : chkB T (e92 O D1 D2 D3 v4 (some (.dat (.int 6))) (some (.exc 14 (T 14) fs)) v7) h = some (.nx (e92 O D1 D2 D3 v4 (some (.dat (.int 6))) (some (.exc 14 (T 14) fs)) (some (.dat (.int 1)))), h) := by
  have m : (14, T 14) ∈ ks12 T := by simp
  have b0 : f2 (addW false) (fA intC (fCons (f2 gt_W (fVar 5) (fC (.int 4))) (fNil))) (fA intC (fCons (f2 gt_W (fVar 5) (fC (.int 8))) (fNil))) (e92 O D1 D2 D3 v4 (some (.dat (.int 6))) (some (.exc 14 (T 14) fs)) v7) h = some (.dat (.int 1), h) := rfl
  have k1 : fA (m__law_kinds T) (fCons (fVar 6) (fNil)) (e92 O D1 D2 D3 v4 (some (.dat (.int 6))) (some (.exc 14 (T 14) fs)) (some (.dat (.int 1)))) h = some (.dat (.list [.bool false, .bool false, .bool false, .bool false, .bool false, .bool false, .bool true, .bool false, .bool false, .bool false, .bool false, .bool false]), h) := xA (xC (h1 := h) rfl xN) (kinds_run m)
  have k2 : (fLc false (rng1I (fCons (fC (.int 12)) (fNil))) (gN 8) (bYes) (f2 (eqW false) (fVar 8) (fVar 5)) [8]) (e92 O D1 D2 D3 v4 (some (.dat (.int 6))) (some (.exc 14 (T 14) fs)) (some (.dat (.int 1)))) h = some (.dat (.list [.bool false, .bool false, .bool false, .bool false, .bool false, .bool false, .bool true, .bool false, .bool false, .bool false, .bool false, .bool false]), h) := rfl
  have k3 : fA (m__law_bases T) (fCons (fVar 6) (fNil)) (e92 O D1 D2 D3 v4 (some (.dat (.int 6))) (some (.exc 14 (T 14) fs)) (some (.dat (.int 1)))) h = some (.dat (.list [.bool false, .bool true, .bool false, .bool false]), h) := xA (xC (h1 := h) rfl xN) (bases_run m)
  have k4 : (fLc false (rng1I (fCons (fC (.int 4)) (fNil))) (gN 8) (bYes) (f2 (eqW false) (fVar 8) (fVar 7)) [8]) (e92 O D1 D2 D3 v4 (some (.dat (.int 6))) (some (.exc 14 (T 14) fs)) (some (.dat (.int 1)))) h = some (.dat (.list [.bool false, .bool true, .bool false, .bool false]), h) := rfl
  unfold chkB
  rw [zA (ρ1 := e92 O D1 D2 D3 v4 (some (.dat (.int 6))) (some (.exc 14 (T 14) fs)) (some (.dat (.int 1)))) b0 rfl]
  exact ifN (xO (xB (x2 k1 k2 (eqW_list (by decide)))) (xB (x2 k3 k4 (eqW_list (by decide)))))
theorem chk_7 {O : W} {D1 D2 D3 : D} {v4 v7 : Option W} {fs : List (Str × D)} : chkB T (e92 O D1 D2 D3 v4 (some (.dat (.int 7))) (some (.exc 15 (T 15) fs)) v7) h = some (.nx (e92 O D1 D2 D3 v4 (some (.dat (.int 7))) (some (.exc 15 (T 15) fs)) (some (.dat (.int 1)))), h) := by
  have m : (15, T 15) ∈ ks12 T := by simp
  have b0 : f2 (addW false) (fA intC (fCons (f2 gt_W (fVar 5) (fC (.int 4))) (fNil))) (fA intC (fCons (f2 gt_W (fVar 5) (fC (.int 8))) (fNil))) (e92 O D1 D2 D3 v4 (some (.dat (.int 7))) (some (.exc 15 (T 15) fs)) v7) h = some (.dat (.int 1), h) := rfl
  have k1 : fA (m__law_kinds T) (fCons (fVar 6) (fNil)) (e92 O D1 D2 D3 v4 (some (.dat (.int 7))) (some (.exc 15 (T 15) fs)) (some (.dat (.int 1)))) h = some (.dat (.list [.bool false, .bool false, .bool false, .bool false, .bool false, .bool false, .bool false, .bool true, .bool false, .bool false, .bool false, .bool false]), h) := xA (xC (h1 := h) rfl xN) (kinds_run m)
  have k2 : (fLc false (rng1I (fCons (fC (.int 12)) (fNil))) (gN 8) (bYes) (f2 (eqW false) (fVar 8) (fVar 5)) [8]) (e92 O D1 D2 D3 v4 (some (.dat (.int 7))) (some (.exc 15 (T 15) fs)) (some (.dat (.int 1)))) h = some (.dat (.list [.bool false, .bool false, .bool false, .bool false, .bool false, .bool false, .bool false, .bool true, .bool false, .bool false, .bool false, .bool false]), h) := rfl
  have k3 : fA (m__law_bases T) (fCons (fVar 6) (fNil)) (e92 O D1 D2 D3 v4 (some (.dat (.int 7))) (some (.exc 15 (T 15) fs)) (some (.dat (.int 1)))) h = some (.dat (.list [.bool false, .bool true, .bool false, .bool false]), h) := xA (xC (h1 := h) rfl xN) (bases_run m)
  have k4 : (fLc false (rng1I (fCons (fC (.int 4)) (fNil))) (gN 8) (bYes) (f2 (eqW false) (fVar 8) (fVar 7)) [8]) (e92 O D1 D2 D3 v4 (some (.dat (.int 7))) (some (.exc 15 (T 15) fs)) (some (.dat (.int 1)))) h = some (.dat (.list [.bool false, .bool true, .bool false, .bool false]), h) := rfl
  unfold chkB
  rw [zA (ρ1 := e92 O D1 D2 D3 v4 (some (.dat (.int 7))) (some (.exc 15 (T 15) fs)) (some (.dat (.int 1)))) b0 rfl]
  exact ifN (xO (xB (x2 k1 k2 (eqW_list (by decide)))) (xB (x2 k3 k4 (eqW_list (by decide)))))
theorem chk_8 {O : W} {D1 D2 D3 : D} {v4 v7 : Option W} {fs : List (Str × D)} : chkB T (e92 O D1 D2 D3 v4 (some (.dat (.int 8))) (some (.exc 16 (T 16) fs)) v7) h = some (.nx (e92 O D1 D2 D3 v4 (some (.dat (.int 8))) (some (.exc 16 (T 16) fs)) (some (.dat (.int 1)))), h) := by
  have m : (16, T 16) ∈ ks12 T := by simp
  have b0 : f2 (addW false) (fA intC (fCons (f2 gt_W (fVar 5) (fC (.int 4))) (fNil))) (fA intC (fCons (f2 gt_W (fVar 5) (fC (.int 8))) (fNil))) (e92 O D1 D2 D3 v4 (some (.dat (.int 8))) (some (.exc 16 (T 16) fs)) v7) h = some (.dat (.int 1), h) := rfl
  have k1 : fA (m__law_kinds T) (fCons (fVar 6) (fNil)) (e92 O D1 D2 D3 v4 (some (.dat (.int 8))) (some (.exc 16 (T 16) fs)) (some (.dat (.int 1)))) h = some (.dat (.list [.bool false, .bool false, .bool false, .bool false, .bool false, .bool false, .bool false, .bool false, .bool true, .bool false, .bool false, .bool false]), h) := xA (xC (h1 := h) rfl xN) (kinds_run m)
  have k2 : (fLc false (rng1I (fCons (fC (.int 12)) (fNil))) (gN 8) (bYes) (f2 (eqW false) (fVar 8) (fVar 5)) [8]) (e92 O D1 D2 D3 v4 (some (.dat (.int 8))) (some (.exc 16 (T 16) fs)) (some (.dat (.int 1)))) h = some (.dat (.list [.bool false, .bool false, .bool false, .bool false, .bool false, .bool false, .bool false, .bool false, .bool true, .bool false, .bool false, .bool false]), h) := rfl
  have k3 : fA (m__law_bases T) (fCons (fVar 6) (fNil)) (e92 O D1 D2 D3 v4 (some (.dat (.int 8))) (some (.exc 16 (T 16) fs)) (some (.dat (.int 1)))) h = some (.dat (.list [.bool false, .bool true, .bool false, .bool false]), h) := xA (xC (h1 := h) rfl xN) (bases_run m)
  have k4 : (fLc false (rng1I (fCons (fC (.int 4)) (fNil))) (gN 8) (bYes) (f2 (eqW false) (fVar 8) (fVar 7)) [8]) (e92 O D1 D2 D3 v4 (some (.dat (.int 8))) (some (.exc 16 (T 16) fs)) (some (.dat (.int 1)))) h = some (.dat (.list [.bool false, .bool true, .bool false, .bool false]), h) := rfl
  unfold chkB
  rw [zA (ρ1 := e92 O D1 D2 D3 v4 (some (.dat (.int 8))) (some (.exc 16 (T 16) fs)) (some (.dat (.int 1)))) b0 rfl]
  exact ifN (xO (xB (x2 k1 k2 (eqW_list (by decide)))) (xB (x2 k3 k4 (eqW_list (by decide)))))
theorem chk_9 {O : W} {D1 D2 D3 : D} {v4 v7 : Option W} {fs : List (Str × D)} : chkB T (e92 O D1 D2 D3 v4 (some (.dat (.int 9))) (some (.exc 17 (T 17) fs)) v7) h = some (.nx (e92 O D1 D2 D3 v4 (some (.dat (.int 9))) (some (.exc 17 (T 17) fs)) (some (.dat (.int 2)))), h) := by
  have m : (17, T 17) ∈ ks12 T := by simp
  have b0 : f2 (addW false) (fA intC (fCons (f2 gt_W (fVar 5) (fC (.int 4))) (fNil))) (fA intC (fCons (f2 gt_W (fVar 5) (fC (.int 8))) (fNil))) (e92 O D1 D2 D3 v4 (some (.dat (.int 9))) (some (.exc 17 (T 17) fs)) v7) h = some (.dat (.int 2), h) := rfl
  have k1 : fA (m__law_kinds T) (fCons (fVar 6) (fNil)) (e92 O D1 D2 D3 v4 (some (.dat (.int 9))) (some (.exc 17 (T 17) fs)) (some (.dat (.int 2)))) h = some (.dat (.list [.bool false, .bool false, .bool false, .bool false, .bool false, .bool false, .bool false, .bool false, .bool false, .bool true, .bool false, .bool false]), h) := xA (xC (h1 := h) rfl xN) (kinds_run m)
  have k2 : (fLc false (rng1I (fCons (fC (.int 12)) (fNil))) (gN 8) (bYes) (f2 (eqW false) (fVar 8) (fVar 5)) [8]) (e92 O D1 D2 D3 v4 (some (.dat (.int 9))) (some (.exc 17 (T 17) fs)) (some (.dat (.int 2)))) h = some (.dat (.list [.bool false, .bool false, .bool false, .bool false, .bool false, .bool false, .bool false, .bool false, .bool false, .bool true, .bool false, .bool false]), h) := rfl
  have k3 : fA (m__law_bases T) (fCons (fVar 6) (fNil)) (e92 O D1 D2 D3 v4 (some (.dat (.int 9))) (some (.exc 17 (T 17) fs)) (some (.dat (.int 2)))) h = some (.dat (.list [.bool false, .bool false, .bool true, .bool false]), h) := xA (xC (h1 := h) rfl xN) (bases_run m)
  have k4 : (fLc false (rng1I (fCons (fC (.int 4)) (fNil))) (gN 8) (bYes) (f2 (eqW false) (fVar 8) (fVar 7)) [8]) (e92 O D1 D2 D3 v4 (some (.dat (.int 9))) (some (.exc 17 (T 17) fs)) (some (.dat (.int 2)))) h = some (.dat (.list [.bool false, .bool false, .bool true, .bool false]), h) := rfl
  unfold chkB
  rw [zA (ρ1 := e92 O D1 D2 D3 v4 (some (.dat (.int 9))) (some (.exc 17 (T 17) fs)) (some (.dat (.int 2)))) b0 rfl]
  exact ifN (xO (xB (x2 k1 k2 (eqW_list (by decide)))) (xB (x2 k3 k4 (eqW_list (by decide)))))
theorem chk_10 {O : W} {D1 D2 D3 : D} {v4 v7 : Option W} {fs : List (Str × D)} : chkB T (e92 O D1 D2 D3 v4 (some (.dat (.int 10))) (some (.exc 18 (T 18) fs)) v7) h = some (.nx (e92 O D1 D2 D3 v4 (some (.dat (.int 10))) (some (.exc 18 (T 18) fs)) (some (.dat (.int 2)))), h) := by
  have m : (18, T 18) ∈ ks12 T := by simp
  have b0 : f2 (addW false) (fA intC (fCons (f2 gt_W (fVar 5) (fC (.int 4))) (fNil))) (fA intC (fCons (f2 gt_W (fVar 5) (fC (.int 8))) (fNil))) (e92 O D1 D2 D3 v4 (some (.dat (.int 10))) (some (.exc 18 (T 18) fs)) v7) h = some (.dat (.int 2), h) := rfl
  have k1 : fA (m__law_kinds T) (fCons (fVar 6) (fNil)) (e92 O D1 D2 D3 v4 (some (.dat (.int 10))) (some (.exc 18 (T 18) fs)) (some (.dat (.int 2)))) h = some (.dat (.list [.bool false, .bool false, .bool false, .bool false, .bool false, .bool false, .bool false, .bool false, .bool false, .bool false, .bool true, .bool false]), h) := xA (xC (h1 := h) rfl xN) (kinds_run m)
  have k2 : (fLc false (rng1I (fCons (fC (.int 12)) (fNil))) (gN 8) (bYes) (f2 (eqW false) (fVar 8) (fVar 5)) [8]) (e92 O D1 D2 D3 v4 (some (.dat (.int 10))) (some (.exc 18 (T 18) fs)) (some (.dat (.int 2)))) h = some (.dat (.list [.bool false, .bool false, .bool false, .bool false, .bool false, .bool false, .bool false, .bool false, .bool false, .bool false, .bool true, .bool false]), h) := rfl
  have k3 : fA (m__law_bases T) (fCons (fVar 6) (fNil)) (e92 O D1 D2 D3 v4 (some (.dat (.int 10))) (some (.exc 18 (T 18) fs)) (some (.dat (.int 2)))) h = some (.dat (.list [.bool false, .bool false, .bool true, .bool false]), h) := xA (xC (h1 := h) rfl xN) (bases_run m)
  have k4 : (fLc false (rng1I (fCons (fC (.int 4)) (fNil))) (gN 8) (bYes) (f2 (eqW false) (fVar 8) (fVar 7)) [8]) (e92 O D1 D2 D3 v4 (some (.dat (.int 10))) (some (.exc 18 (T 18) fs)) (some (.dat (.int 2)))) h = some (.dat (.list [.bool false, .bool false, .bool true, .bool false]), h) := rfl
  unfold chkB
  rw [zA (ρ1 := e92 O D1 D2 D3 v4 (some (.dat (.int 10))) (some (.exc 18 (T 18) fs)) (some (.dat (.int 2)))) b0 rfl]
  exact ifN (xO (xB (x2 k1 k2 (eqW_list (by decide)))) (xB (x2 k3 k4 (eqW_list (by decide)))))
theorem chk_11 {O : W} {D1 D2 D3 : D} {v4 v7 : Option W} {fs : List (Str × D)} : chkB T (e92 O D1 D2 D3 v4 (some (.dat (.int 11))) (some (.exc 19 (T 19) fs)) v7) h = some (.nx (e92 O D1 D2 D3 v4 (some (.dat (.int 11))) (some (.exc 19 (T 19) fs)) (some (.dat (.int 2)))), h) := by
  have m : (19, T 19) ∈ ks12 T := by simp
  have b0 : f2 (addW false) (fA intC (fCons (f2 gt_W (fVar 5) (fC (.int 4))) (fNil))) (fA intC (fCons (f2 gt_W (fVar 5) (fC (.int 8))) (fNil))) (e92 O D1 D2 D3 v4 (some (.dat (.int 11))) (some (.exc 19 (T 19) fs)) v7) h = some (.dat (.int 2), h) := rfl
  have k1 : fA (m__law_kinds T) (fCons (fVar 6) (fNil)) (e92 O D1 D2 D3 v4 (some (.dat (.int 11))) (some (.exc 19 (T 19) fs)) (some (.dat (.int 2)))) h = some (.dat (.list [.bool false, .bool false, .bool false, .bool false, .bool false, .bool false, .bool false, .bool false, .bool false, .bool false, .bool false, .bool true]), h) := xA (xC (h1 := h) rfl xN) (kinds_run m)
  have k2 : (fLc false (rng1I (fCons (fC (.int 12)) (fNil))) (gN 8) (bYes) (f2 (eqW false) (fVar 8) (fVar 5)) [8]) (e92 O D1 D2 D3 v4 (some (.dat (.int 11))) (some (.exc 19 (T 19) fs)) (some (.dat (.int 2)))) h = some (.dat (.list [.bool false, .bool false, .bool false, .bool false, .bool false, .bool false, .bool false, .bool false, .bool false, .bool false, .bool false, .bool true]), h) := rfl
  have k3 : fA (m__law_bases T) (fCons (fVar 6) (fNil)) (e92 O D1 D2 D3 v4 (some (.dat (.int 11))) (some (.exc 19 (T 19) fs)) (some (.dat (.int 2)))) h = some (.dat (.list [.bool false, .bool false, .bool true, .bool false]), h) := xA (xC (h1 := h) rfl xN) (bases_run m)
  have k4 : (fLc false (rng1I (fCons (fC (.int 4)) (fNil))) (gN 8) (bYes) (f2 (eqW false) (fVar 8) (fVar 7)) [8]) (e92 O D1 D2 D3 v4 (some (.dat (.int 11))) (some (.exc 19 (T 19) fs)) (some (.dat (.int 2)))) h = some (.dat (.list [.bool false, .bool false, .bool true, .bool false]), h) := rfl
  unfold chkB
  rw [zA (ρ1 := e92 O D1 D2 D3 v4 (some (.dat (.int 11))) (some (.exc 19 (T 19) fs)) (some (.dat (.int 2)))) b0 rfl]
  exact ifN (xO (xB (x2 k1 k2 (eqW_list (by decide)))) (xB (x2 k3 k4 (eqW_list (by decide)))))
theorem forE_cons {k : TMw} {body : SM} {i : Nat} {d : OI} {ds : List OI} {ρ ρ1 ρ2 : DL.Env} {h h2 : Hh} (e1 : k [.dat (.int (i : Int)), d.w] ρ h = some ρ1) (e2 : body ρ1 h = some (.nx ρ2, h2)) : forE k body i (d :: ds) ρ h = forE k body (i + 1) ds ρ2 h2 := by
  rw [forE, e1]
  dsimp only
  rw [e2]
theorem xf_at {ks : List (Nat × Addr)} {n : Str} {k : Nat} {C : Addr} {fs : List (Str × D)} {d : D} {ρ : DL.Env} {E : EM} (e : E ρ h = some (.exc k C fs, h)) (m : (k, C) ∈ ks) (l : fs.lookup n = some d) : f1 (xfW ks n) E ρ h = some (.dat d, h) := by
  unfold f1
  simp only [e, obnd]
  unfold xfW
  simp only [m, if_true, l]
def osA (T : Nat → Addr) (t : Str) (d0 d1 d2 d3 d4 d5 : Int) (S : D) : List OI := [.exc 8 (T 8) [], .exc 9 (T 9) [(("name" : Str), (.str t : D))], .exc 10 (T 10) [(("at" : Str), (.int d0 : D))], .exc 11 (T 11) [(("row" : Str), (.int d1 : D))], .exc 12 (T 12) [(("at" : Str), (.int d2 : D))], .exc 13 (T 13) [(("name" : Str), (.str t : D))], .exc 14 (T 14) [(("place" : Str), (.int d3 : D))], .exc 15 (T 15) [(("number" : Str), (.int d4 : D))], .exc 16 (T 16) [(("many" : Str), (.int d5 : D))], .exc 17 (T 17) [(("ring" : Str), (S : D))], .exc 18 (T 18) [(("name" : Str), (.str t : D))], .exc 19 (T 19) []]
theorem made_ok {t : Str} {d0 d1 d2 d3 d4 d5 : Int} {S : D} (hS : plainD S = true ∧ S.depth ≤ 3) : m__law_made_right T [.objs (osA T t d0 d1 d2 d3 d4 d5 S), .dat (.list [.int d0, .int d1, .int d2, .int d3, .int d4, .int d5]), .dat (.str t), .dat S] h = some (.dat (.bool true), h) := by
  have hz : sizeLine = 16777216 := rfl
  unfold m__law_made_right
  refine fnM_rt (h' := h) (w := .dat (.bool true)) ?_ rfl leave_same'
  show sSeq _ _ (e92 (.objs (osA T t d0 d1 d2 d3 d4 d5 S)) (.list [.int d0, .int d1, .int d2, .int d3, .int d4, .int d5]) (.str t) S none none none none) h = _
  have a1 : (fA (lstW false) (fCons (f1 (xfW [(9, T 9), (13, T 13), (18, T 18)] "name") (f2 idxO (fVar 0) (fC (.int 1)))) (fCons (f1 (xfW [(10, T 10), (12, T 12)] "at") (f2 idxO (fVar 0) (fC (.int 2)))) (fCons (f1 (xfW [(11, T 11)] "row") (f2 idxO (fVar 0) (fC (.int 3)))) (fCons (f1 (xfW [(10, T 10), (12, T 12)] "at") (f2 idxO (fVar 0) (fC (.int 4)))) (fCons (f1 (xfW [(9, T 9), (13, T 13), (18, T 18)] "name") (f2 idxO (fVar 0) (fC (.int 5)))) (fNil))))))) (e92 (.objs (osA T t d0 d1 d2 d3 d4 d5 S)) (.list [.int d0, .int d1, .int d2, .int d3, .int d4, .int d5]) (.str t) S none none none none) h = some (.dat (.list [.str t, .int d0, .int d1, .int d2, .str t]), h) := xA (xC (xf_at (k := 9) (C := T 9) (fs := [(("name" : Str), (.str t : D))]) rfl (by simp) rfl) (xC (xf_at (k := 10) (C := T 10) (fs := [(("at" : Str), (.int d0 : D))]) rfl (by simp) rfl) (xC (xf_at (k := 11) (C := T 11) (fs := [(("row" : Str), (.int d1 : D))]) rfl (by simp) rfl) (xC (xf_at (k := 12) (C := T 12) (fs := [(("at" : Str), (.int d2 : D))]) rfl (by simp) rfl) (xC (xf_at (k := 13) (C := T 13) (fs := [(("name" : Str), (.str t : D))]) rfl (by simp) rfl) (xN)))))) (xLst (ds := [.str t, .int d0, .int d1, .int d2, .str t]) rfl (by show 5 ≤ sizeLine; omega))
  have a2 : (f2 (addW false) (f2 (addW false) (fA (lstW false) (fCons (fVar 2) (fNil))) (fSl false (fVar 1) (oNone) (oSome (fC (.int 3))))) (fA (lstW false) (fCons (fVar 2) (fNil)))) (e92 (.objs (osA T t d0 d1 d2 d3 d4 d5 S)) (.list [.int d0, .int d1, .int d2, .int d3, .int d4, .int d5]) (.str t) S none none none none) h = some (.dat (.list [.str t, .int d0, .int d1, .int d2, .str t]), h) := rfl
  have s1 := same_refl 12 (.list [.str t, .int d0, .int d1, .int d2, .str t]) h rfl (by simp [PyData.depth, PyData.depthAll])
  rw [zI (xT (xA (xC a1 (xC a2 xN)) s1))]
  have a3 : (fA (lstW false) (fCons (f1 (xfW [(14, T 14)] "place") (f2 idxO (fVar 0) (fC (.int 6)))) (fCons (f1 (xfW [(15, T 15)] "number") (f2 idxO (fVar 0) (fC (.int 7)))) (fCons (f1 (xfW [(16, T 16)] "many") (f2 idxO (fVar 0) (fC (.int 8)))) (fCons (f1 (xfW [(17, T 17)] "ring") (f2 idxO (fVar 0) (fC (.int 9)))) (fCons (f1 (xfW [(9, T 9), (13, T 13), (18, T 18)] "name") (f2 idxO (fVar 0) (fC (.int 10)))) (fNil))))))) (e92 (.objs (osA T t d0 d1 d2 d3 d4 d5 S)) (.list [.int d0, .int d1, .int d2, .int d3, .int d4, .int d5]) (.str t) S none none none none) h = some (.dat (.list [.int d3, .int d4, .int d5, S, .str t]), h) := xA (xC (xf_at (k := 14) (C := T 14) (fs := [(("place" : Str), (.int d3 : D))]) rfl (by simp) rfl) (xC (xf_at (k := 15) (C := T 15) (fs := [(("number" : Str), (.int d4 : D))]) rfl (by simp) rfl) (xC (xf_at (k := 16) (C := T 16) (fs := [(("many" : Str), (.int d5 : D))]) rfl (by simp) rfl) (xC (xf_at (k := 17) (C := T 17) (fs := [(("ring" : Str), (S : D))]) rfl (by simp) rfl) (xC (xf_at (k := 18) (C := T 18) (fs := [(("name" : Str), (.str t : D))]) rfl (by simp) rfl) (xN)))))) (xLst (ds := [.int d3, .int d4, .int d5, S, .str t]) rfl (by show 5 ≤ sizeLine; omega))
  rw [zA (ρ1 := e92 (.objs (osA T t d0 d1 d2 d3 d4 d5 S)) (.list [.int d0, .int d1, .int d2, .int d3, .int d4, .int d5]) (.str t) S (some (.dat (.list [.int d3, .int d4, .int d5, S, .str t]))) none none none) a3 rfl]
  have a4 : (f2 (addW false) (fSl false (fVar 1) (oSome (fC (.int 3))) (oSome (fC (.int 6)))) (fA (lstW false) (fCons (fVar 3) (fCons (fVar 2) (fNil))))) (e92 (.objs (osA T t d0 d1 d2 d3 d4 d5 S)) (.list [.int d0, .int d1, .int d2, .int d3, .int d4, .int d5]) (.str t) S (some (.dat (.list [.int d3, .int d4, .int d5, S, .str t]))) none none none) h = some (.dat (.list [.int d3, .int d4, .int d5, S, .str t]), h) := rfl
  have s2 := same_refl 12 (.list [.int d3, .int d4, .int d5, S, .str t]) h (by simp [plainD, plainDs, hS.1]; show 5 ≤ sizeLine; omega) (by simp only [PyData.depth, PyData.depthAll]; have := hS.2; omega)
  rw [zI (xT (xA (xC (E := fVar 4) (h1 := h) rfl (xC a4 xN)) s2))]
  have lp : forE (gCw (gN 5) (gCw (gN 6) (gEw))) (chkB T) 0 (osA T t d0 d1 d2 d3 d4 d5 S) (e92 (.objs (osA T t d0 d1 d2 d3 d4 d5 S)) (.list [.int d0, .int d1, .int d2, .int d3, .int d4, .int d5]) (.str t) S (some (.dat (.list [.int d3, .int d4, .int d5, S, .str t]))) none none none) h = some (.nx (e92 (.objs (osA T t d0 d1 d2 d3 d4 d5 S)) (.list [.int d0, .int d1, .int d2, .int d3, .int d4, .int d5]) (.str t) S (some (.dat (.list [.int d3, .int d4, .int d5, S, .str t]))) (some (.dat (.int 11))) (some (.exc 19 (T 19) [])) (some (.dat (.int 2)))), h) := by
    unfold osA
    refine (forE_cons (i := 0) rfl chk_0).trans ?_
    refine (forE_cons (i := 1) rfl chk_1).trans ?_
    refine (forE_cons (i := 2) rfl chk_2).trans ?_
    refine (forE_cons (i := 3) rfl chk_3).trans ?_
    refine (forE_cons (i := 4) rfl chk_4).trans ?_
    refine (forE_cons (i := 5) rfl chk_5).trans ?_
    refine (forE_cons (i := 6) rfl chk_6).trans ?_
    refine (forE_cons (i := 7) rfl chk_7).trans ?_
    refine (forE_cons (i := 8) rfl chk_8).trans ?_
    refine (forE_cons (i := 9) rfl chk_9).trans ?_
    refine (forE_cons (i := 10) rfl chk_10).trans ?_
    refine (forE_cons (i := 11) rfl chk_11).trans ?_
    rfl
  have z : ∀ REST : SM, sSeq (sForE (enumO (fCons (fVar 0) (fNil))) (gCw (gN 5) (gCw (gN 6) (gEw))) (chkB T)) REST (e92 (.objs (osA T t d0 d1 d2 d3 d4 d5 S)) (.list [.int d0, .int d1, .int d2, .int d3, .int d4, .int d5]) (.str t) S (some (.dat (.list [.int d3, .int d4, .int d5, S, .str t]))) none none none) h = REST (e92 (.objs (osA T t d0 d1 d2 d3 d4 d5 S)) (.list [.int d0, .int d1, .int d2, .int d3, .int d4, .int d5]) (.str t) S (some (.dat (.list [.int d3, .int d4, .int d5, S, .str t]))) (some (.dat (.int 11))) (some (.exc 19 (T 19) [])) (some (.dat (.int 2)))) h := fun REST => by
    unfold sSeq sForE
    rw [show enumO (fCons (fVar 0) (fNil)) (e92 (.objs (osA T t d0 d1 d2 d3 d4 d5 S)) (.list [.int d0, .int d1, .int d2, .int d3, .int d4, .int d5]) (.str t) S (some (.dat (.list [.int d3, .int d4, .int d5, S, .str t]))) none none none) h = some (osA T t d0 d1 d2 d3 d4 d5 S, h) from rfl]
    rw [sbnd_some, lp]
  rw [z]
  rfl
end
section
variable {T : Nat → Addr} {h : Hh}
theorem six_ints {rs : List D} (hl : rs.length = 6) (hr : ∀ (j : Nat) (r : D), rs[j]? = some r → ∃ z : Int, r = .int z) : ∃ d0 d1 d2 d3 d4 d5 : Int, rs = [.int d0, .int d1, .int d2, .int d3, .int d4, .int d5] := by
  match rs, hl with
  | [a, b, c, d, e, f], _ =>
    obtain ⟨d0, rfl⟩ := hr 0 a rfl
    obtain ⟨d1, rfl⟩ := hr 1 b rfl
    obtain ⟨d2, rfl⟩ := hr 2 c rfl
    obtain ⟨d3, rfl⟩ := hr 3 d rfl
    obtain ⟨d4, rfl⟩ := hr 4 e rfl
    obtain ⟨d5, rfl⟩ := hr 5 f rfl
    exact ⟨d0, d1, d2, d3, d4, d5, rfl⟩
theorem right_ok {b : Nat} (bx : BoxAt h b 0) : ∃ h' c, m__law_right T [.ref b] h = some (.dat (.bool true), h') ∧ BoxAt h' b c ∧ Only b h h' := by
  have hz : sizeLine = 16777216 := rfl
  obtain ⟨rs, h1, e1, hl, hr, b1, o1⟩ := lcL_inv (k := gN 6) (f := (f2 subW (fA (m__law_take) (fCons (fVar 0) (fCons (f2 powW (fC (.int 10)) (fC (.int 6))) (fNil)))) (fC (.int 1)))) (ρ := [some (.ref b), none, none, none, none, none, none]) (fun n g => BoxAt g b n ∧ Only b h g) (fun _ d => ∃ z : Int, d = .int z) (ds := rngD 0 (6 : Int).toNat) (n := 0) (h := h) ⟨bx, Only.refl b h⟩ (by
    rintro j d ej g ⟨bg, og⟩
    obtain ⟨hj, rfl⟩ := rng_get ej
    have hj : j < 6 := hj
    obtain ⟨r, g', e, r0, r1, b', o'⟩ := take_ok (n := 1000000) bg (by omega) (by decide) (by decide)
    refine ⟨[some (.ref b), none, none, none, none, none, some (.dat (.int (j : Int)))], .int (r - 1), g', rfl, ?_, ⟨r - 1, rfl⟩, by rw [Nat.zero_add] at b'; rw [Nat.zero_add]; exact b', og.trans o'⟩
    exact x2 (xA (xC (E := fVar 0) (h1 := g) rfl (xC (w := .dat (.int 1000000)) (h1 := g) rfl xN)) e) (B := fC (.int 1)) (h2 := g') rfl sub_i)
  rw [show (rngD 0 (6 : Int).toNat).length = 6 from rng_len ..] at hl b1
  rw [Nat.zero_add] at b1
  obtain ⟨d0, d1, d2, d3, d4, d5, rfl⟩ := six_ints hl hr
  have s1 : (fLc false (rng1I (fCons (fC (.int 6)) (fNil))) (gN 6) (bYes) (f2 subW (fA (m__law_take) (fCons (fVar 0) (fCons (f2 powW (fC (.int 10)) (fC (.int 6))) (fNil)))) (fC (.int 1))) [6]) [some (.ref b), none, none, none, none, none, none] h = some (.dat (.list [.int d0, .int d1, .int d2, .int d3, .int d4, .int d5]), h1) := xL (vs := [6]) (IT := rng1I (fCons (fC (.int 6)) (fNil))) (h1 := h) (ds := rngD 0 (6 : Int).toNat) rfl e1 (by show 6 ≤ sizeLine; omega)
  obtain ⟨td, h2, e2, ht, b2, o2⟩ := pick_ok (x := .list [.str "a", .str "", .str "A b", .str "zzzzzz"]) (.inl rfl) b1 (by omega) (by show 0 < 4; decide) (by show 4 ≤ 1000; decide)
  obtain ⟨t, rfl⟩ : ∃ t : Str, td = .str t := by
    simp only [List.mem_cons, List.not_mem_nil, or_false] at ht
    rcases ht with rfl | rfl | rfl | rfl <;> exact ⟨_, rfl⟩
  obtain ⟨r, h3, e3, r0, r1, b3, o3⟩ := take_ok (n := 2) b2 (by omega) (by decide) (by decide)
  obtain ⟨S, eS, hS⟩ : ∃ S : D, idxW (.dat (.list [.list [.str "a", .str "b"], .list [.str "b", .str "c", .str "a"]])) (.dat (.int r)) h3 = some (.dat S, h3) ∧ plainD S = true ∧ S.depth ≤ 3 := by
    have : r = 0 ∨ r = 1 := by omega
    rcases this with rfl | rfl
    · exact ⟨.list [.str "a", .str "b"], rfl, rfl, by simp [PyData.depth, PyData.depthAll]⟩
    · exact ⟨.list [.str "b", .str "c", .str "a"], rfl, rfl, by simp [PyData.depth, PyData.depthAll]⟩
  have o := (o1.trans o2).trans o3
  refine ⟨h3, _, ?_, b3, o⟩
  unfold m__law_right
  refine fnM_rt (h' := h3) (w := .dat (.bool true)) ?_ rfl (leave_dat' bx b3 o)
  show sSeq _ _ [some (.ref b), none, none, none, none, none, none] h = _
  rw [zA (ρ1 := [some (.ref b), some (.dat (.list [.int d0, .int d1, .int d2, .int d3, .int d4, .int d5])), none, none, none, none, none]) s1 rfl]
  have p1 : fA (m__law_pick) (fCons (fVar 0) (fCons (fA (lstW false) (fCons (fC (.str "a")) (fCons (fC (.str "")) (fCons (fC (.str "A b")) (fCons (fC (.str "zzzzzz")) (fNil)))))) (fNil))) [some (.ref b), some (.dat (.list [.int d0, .int d1, .int d2, .int d3, .int d4, .int d5])), none, none, none, none, none] h1 = some (.dat (.str t), h2) := xA (ws := [.ref b, .dat (.list [.str "a", .str "", .str "A b", .str "zzzzzz"])]) rfl e2
  have p2 : f2 idxW (fA (lstW false) (fCons (fA (lstW false) (fCons (fC (.str "a")) (fCons (fC (.str "b")) (fNil)))) (fCons (fA (lstW false) (fCons (fC (.str "b")) (fCons (fC (.str "c")) (fCons (fC (.str "a")) (fNil))))) (fNil)))) (fA (m__law_take) (fCons (fVar 0) (fCons (fC (.int 2)) (fNil)))) [some (.ref b), some (.dat (.list [.int d0, .int d1, .int d2, .int d3, .int d4, .int d5])), none, none, none, none, none] h2 = some (.dat S, h3) := x2 (x := .dat (.list [.list [.str "a", .str "b"], .list [.str "b", .str "c", .str "a"]])) (h1 := h2) rfl (xA (ws := [.ref b, .dat (.int 2)]) rfl e3) eS
  rw [zP (ws := [.dat (.str t), .dat S]) (ρ1 := [some (.ref b), some (.dat (.list [.int d0, .int d1, .int d2, .int d3, .int d4, .int d5])), none, none, some (.dat (.str t)), some (.dat S), none]) (xC p1 (xC p2 xN)) rfl rfl]
  rw [zA (ρ1 := [some (.ref b), some (.dat (.list [.int d0, .int d1, .int d2, .int d3, .int d4, .int d5])), some (.objs [.exc 8 (T 8) [], .exc 9 (T 9) [(("name" : Str), (.str t : D))], .exc 10 (T 10) [(("at" : Str), (.int d0 : D))], .exc 11 (T 11) [(("row" : Str), (.int d1 : D))], .exc 12 (T 12) [(("at" : Str), (.int d2 : D))], .exc 13 (T 13) [(("name" : Str), (.str t : D))], .exc 14 (T 14) [(("place" : Str), (.int d3 : D))]]), none, some (.dat (.str t)), some (.dat S), none]) (w := .objs [.exc 8 (T 8) [], .exc 9 (T 9) [(("name" : Str), (.str t : D))], .exc 10 (T 10) [(("at" : Str), (.int d0 : D))], .exc 11 (T 11) [(("row" : Str), (.int d1 : D))], .exc 12 (T 12) [(("at" : Str), (.int d2 : D))], .exc 13 (T 13) [(("name" : Str), (.str t : D))], .exc 14 (T 14) [(("place" : Str), (.int d3 : D))]]) (show (fA objW (fCons (fNewE0 8 (T 8)) (fCons (fNewE 9 (T 9) "name" (fVar 4)) (fCons (fNewE 10 (T 10) "at" (f2 idxW (fVar 1) (fC (.int 0)))) (fCons (fNewE 11 (T 11) "row" (f2 idxW (fVar 1) (fC (.int 1)))) (fCons (fNewE 12 (T 12) "at" (f2 idxW (fVar 1) (fC (.int 2)))) (fCons (fNewE 13 (T 13) "name" (fVar 4)) (fCons (fNewE 14 (T 14) "place" (f2 idxW (fVar 1) (fC (.int 3)))) (fNil))))))))) [some (.ref b), some (.dat (.list [.int d0, .int d1, .int d2, .int d3, .int d4, .int d5])), none, none, some (.dat (.str t)), some (.dat S), none] h3 = some (.objs [.exc 8 (T 8) [], .exc 9 (T 9) [(("name" : Str), (.str t : D))], .exc 10 (T 10) [(("at" : Str), (.int d0 : D))], .exc 11 (T 11) [(("row" : Str), (.int d1 : D))], .exc 12 (T 12) [(("at" : Str), (.int d2 : D))], .exc 13 (T 13) [(("name" : Str), (.str t : D))], .exc 14 (T 14) [(("place" : Str), (.int d3 : D))]], h3) from rfl) rfl]
  rw [zA (ρ1 := [some (.ref b), some (.dat (.list [.int d0, .int d1, .int d2, .int d3, .int d4, .int d5])), some (.objs (osA T t d0 d1 d2 d3 d4 d5 S)), none, some (.dat (.str t)), some (.dat S), none]) (w := .objs (osA T t d0 d1 d2 d3 d4 d5 S)) (show f2 addO (fVar 2) (fA objW (fCons (fNewE 15 (T 15) "number" (f2 idxW (fVar 1) (fC (.int 4)))) (fCons (fNewE 16 (T 16) "many" (f2 idxW (fVar 1) (fC (.int 5)))) (fCons (fNewE 17 (T 17) "ring" (fVar 5)) (fCons (fNewE 18 (T 18) "name" (fVar 4)) (fCons (fNewE0 19 (T 19)) (fNil))))))) [some (.ref b), some (.dat (.list [.int d0, .int d1, .int d2, .int d3, .int d4, .int d5])), some (.objs [.exc 8 (T 8) [], .exc 9 (T 9) [(("name" : Str), (.str t : D))], .exc 10 (T 10) [(("at" : Str), (.int d0 : D))], .exc 11 (T 11) [(("row" : Str), (.int d1 : D))], .exc 12 (T 12) [(("at" : Str), (.int d2 : D))], .exc 13 (T 13) [(("name" : Str), (.str t : D))], .exc 14 (T 14) [(("place" : Str), (.int d3 : D))]]), none, some (.dat (.str t)), some (.dat S), none] h3 = some (.objs (osA T t d0 d1 d2 d3 d4 d5 S), h3) from rfl) rfl]
  rw [zA (ρ1 := [some (.ref b), some (.dat (.list [.int d0, .int d1, .int d2, .int d3, .int d4, .int d5])), some (.objs (osA T t d0 d1 d2 d3 d4 d5 S)), some (.objs [.exc 8 (T 8) [], .exc 9 (T 9) [(("name" : Str), (.str t : D))], .exc 10 (T 10) [(("at" : Str), (.int d0 : D))], .exc 11 (T 11) [(("row" : Str), (.int d1 : D))], .exc 12 (T 12) [(("at" : Str), (.int d2 : D))]]), some (.dat (.str t)), some (.dat S), none]) (w := .objs [.exc 8 (T 8) [], .exc 9 (T 9) [(("name" : Str), (.str t : D))], .exc 10 (T 10) [(("at" : Str), (.int d0 : D))], .exc 11 (T 11) [(("row" : Str), (.int d1 : D))], .exc 12 (T 12) [(("at" : Str), (.int d2 : D))]]) (show (fA objW (fCons (fNewE0 8 (T 8)) (fCons (fNewEK 9 (T 9) "name" (fCons (fVar 4) (fNil))) (fCons (fNewEK 10 (T 10) "at" (fCons (f2 idxW (fVar 1) (fC (.int 0))) (fNil))) (fCons (fNewEK 11 (T 11) "row" (fCons (f2 idxW (fVar 1) (fC (.int 1))) (fNil))) (fCons (fNewEK 12 (T 12) "at" (fCons (f2 idxW (fVar 1) (fC (.int 2))) (fNil))) (fNil))))))) [some (.ref b), some (.dat (.list [.int d0, .int d1, .int d2, .int d3, .int d4, .int d5])), some (.objs (osA T t d0 d1 d2 d3 d4 d5 S)), none, some (.dat (.str t)), some (.dat S), none] h3 = some (.objs [.exc 8 (T 8) [], .exc 9 (T 9) [(("name" : Str), (.str t : D))], .exc 10 (T 10) [(("at" : Str), (.int d0 : D))], .exc 11 (T 11) [(("row" : Str), (.int d1 : D))], .exc 12 (T 12) [(("at" : Str), (.int d2 : D))]], h3) from rfl) rfl]
  rw [zA (ρ1 := [some (.ref b), some (.dat (.list [.int d0, .int d1, .int d2, .int d3, .int d4, .int d5])), some (.objs (osA T t d0 d1 d2 d3 d4 d5 S)), some (.objs [.exc 8 (T 8) [], .exc 9 (T 9) [(("name" : Str), (.str t : D))], .exc 10 (T 10) [(("at" : Str), (.int d0 : D))], .exc 11 (T 11) [(("row" : Str), (.int d1 : D))], .exc 12 (T 12) [(("at" : Str), (.int d2 : D))], .exc 13 (T 13) [(("name" : Str), (.str t : D))], .exc 14 (T 14) [(("place" : Str), (.int d3 : D))], .exc 15 (T 15) [(("number" : Str), (.int d4 : D))], .exc 16 (T 16) [(("many" : Str), (.int d5 : D))]]), some (.dat (.str t)), some (.dat S), none]) (w := .objs [.exc 8 (T 8) [], .exc 9 (T 9) [(("name" : Str), (.str t : D))], .exc 10 (T 10) [(("at" : Str), (.int d0 : D))], .exc 11 (T 11) [(("row" : Str), (.int d1 : D))], .exc 12 (T 12) [(("at" : Str), (.int d2 : D))], .exc 13 (T 13) [(("name" : Str), (.str t : D))], .exc 14 (T 14) [(("place" : Str), (.int d3 : D))], .exc 15 (T 15) [(("number" : Str), (.int d4 : D))], .exc 16 (T 16) [(("many" : Str), (.int d5 : D))]]) (show f2 addO (fVar 3) (fA objW (fCons (fNewEK 13 (T 13) "name" (fCons (fVar 4) (fNil))) (fCons (fNewEK 14 (T 14) "place" (fCons (f2 idxW (fVar 1) (fC (.int 3))) (fNil))) (fCons (fNewEK 15 (T 15) "number" (fCons (f2 idxW (fVar 1) (fC (.int 4))) (fNil))) (fCons (fNewEK 16 (T 16) "many" (fCons (f2 idxW (fVar 1) (fC (.int 5))) (fNil))) (fNil)))))) [some (.ref b), some (.dat (.list [.int d0, .int d1, .int d2, .int d3, .int d4, .int d5])), some (.objs (osA T t d0 d1 d2 d3 d4 d5 S)), some (.objs [.exc 8 (T 8) [], .exc 9 (T 9) [(("name" : Str), (.str t : D))], .exc 10 (T 10) [(("at" : Str), (.int d0 : D))], .exc 11 (T 11) [(("row" : Str), (.int d1 : D))], .exc 12 (T 12) [(("at" : Str), (.int d2 : D))]]), some (.dat (.str t)), some (.dat S), none] h3 = some (.objs [.exc 8 (T 8) [], .exc 9 (T 9) [(("name" : Str), (.str t : D))], .exc 10 (T 10) [(("at" : Str), (.int d0 : D))], .exc 11 (T 11) [(("row" : Str), (.int d1 : D))], .exc 12 (T 12) [(("at" : Str), (.int d2 : D))], .exc 13 (T 13) [(("name" : Str), (.str t : D))], .exc 14 (T 14) [(("place" : Str), (.int d3 : D))], .exc 15 (T 15) [(("number" : Str), (.int d4 : D))], .exc 16 (T 16) [(("many" : Str), (.int d5 : D))]], h3) from rfl) rfl]
  rw [zA (ρ1 := [some (.ref b), some (.dat (.list [.int d0, .int d1, .int d2, .int d3, .int d4, .int d5])), some (.objs (osA T t d0 d1 d2 d3 d4 d5 S)), some (.objs (osA T t d0 d1 d2 d3 d4 d5 S)), some (.dat (.str t)), some (.dat S), none]) (w := .objs (osA T t d0 d1 d2 d3 d4 d5 S)) (show f2 addO (fVar 3) (fA objW (fCons (fNewEK 17 (T 17) "ring" (fCons (fVar 5) (fNil))) (fCons (fNewEK 18 (T 18) "name" (fCons (fVar 4) (fNil))) (fCons (fNewE0 19 (T 19)) (fNil))))) [some (.ref b), some (.dat (.list [.int d0, .int d1, .int d2, .int d3, .int d4, .int d5])), some (.objs (osA T t d0 d1 d2 d3 d4 d5 S)), some (.objs [.exc 8 (T 8) [], .exc 9 (T 9) [(("name" : Str), (.str t : D))], .exc 10 (T 10) [(("at" : Str), (.int d0 : D))], .exc 11 (T 11) [(("row" : Str), (.int d1 : D))], .exc 12 (T 12) [(("at" : Str), (.int d2 : D))], .exc 13 (T 13) [(("name" : Str), (.str t : D))], .exc 14 (T 14) [(("place" : Str), (.int d3 : D))], .exc 15 (T 15) [(("number" : Str), (.int d4 : D))], .exc 16 (T 16) [(("many" : Str), (.int d5 : D))]]), some (.dat (.str t)), some (.dat S), none] h3 = some (.objs (osA T t d0 d1 d2 d3 d4 d5 S), h3) from rfl) rfl]
  have ok : ∀ i, i = 2 ∨ i = 3 → fA (m__law_made_right T) (fCons (fVar i) (fCons (fVar 1) (fCons (fVar 4) (fCons (fVar 5) (fNil))))) [some (.ref b), some (.dat (.list [.int d0, .int d1, .int d2, .int d3, .int d4, .int d5])), some (.objs (osA T t d0 d1 d2 d3 d4 d5 S)), some (.objs (osA T t d0 d1 d2 d3 d4 d5 S)), some (.dat (.str t)), some (.dat S), none] h3 = some (.dat (.bool true), h3) := fun i hi => by
    rcases hi with rfl | rfl
    · exact xA (ws := [.objs (osA T t d0 d1 d2 d3 d4 d5 S), .dat (.list [.int d0, .int d1, .int d2, .int d3, .int d4, .int d5]), .dat (.str t), .dat S]) rfl (made_ok hS)
    · exact xA (ws := [.objs (osA T t d0 d1 d2 d3 d4 d5 S), .dat (.list [.int d0, .int d1, .int d2, .int d3, .int d4, .int d5]), .dat (.str t), .dat S]) rfl (made_ok hS)
  refine zR ?_
  unfold fAnd
  simp only [ok 2 (.inl rfl), obnd]
  exact ok 3 (.inr rfl)
end
theorem law_true (T : Nat → Addr) (ns : List Int) (hl : ns.length ≤ 63) : ∃ h, m_law T [.scr ns] [] = some (.dat (.bool true), h) :=
  law_okH (h0 := []) rfl (right := m__law_right T) (fun h b _ _ bx => right_ok bx) ns hl
end LW
set_option maxHeartbeats 4000000
namespace LW
open PySem PySem.Spec PyProof.Rows L2 DL
def topS (i : Nat) : Stmt := PySem.Challenge.pw_standby_k92_refusals_made_by_hand.main.body.getD i (.Pass ⟨0, 0, 0, 0⟩)
section
variable [HW] {K : PySem.W.Frag} {mg : Str → Option Value} {base : Heap}
abbrev s_Alike___init__ : Stmt := inClass (topS 2) 0
theorem sc_Alike___init__ : FnScope ["self", "name"] ["self", "name"] (defScope s_Alike___init__) := ⟨rfl, rfl, rfl, by decide +kernel, rfl, by decide +kernel, by decide +kernel⟩
abbrev s_Known___init__ : Stmt := inClass (topS 11) 0
theorem sc_Known___init__ : FnScope ["self", "name"] ["self", "name"] (defScope s_Known___init__) := ⟨rfl, rfl, rfl, by decide +kernel, rfl, by decide +kernel, by decide +kernel⟩
abbrev s_Never___init__ : Stmt := inClass (topS 10) 0
theorem sc_Never___init__ : FnScope ["self", "ring"] ["self", "ring"] (defScope s_Never___init__) := ⟨rfl, rfl, rfl, by decide +kernel, rfl, by decide +kernel, by decide +kernel⟩
abbrev s_NoDeed___init__ : Stmt := inClass (topS 9) 0
theorem sc_NoDeed___init__ : FnScope ["self", "many"] ["self", "many"] (defScope s_NoDeed___init__) := ⟨rfl, rfl, rfl, by decide +kernel, rfl, by decide +kernel, by decide +kernel⟩
abbrev s_NoNumber___init__ : Stmt := inClass (topS 8) 0
theorem sc_NoNumber___init__ : FnScope ["self", "number"] ["self", "number"] (defScope s_NoNumber___init__) := ⟨rfl, rfl, rfl, by decide +kernel, rfl, by decide +kernel, by decide +kernel⟩
abbrev s_NoPlace___init__ : Stmt := inClass (topS 7) 0
theorem sc_NoPlace___init__ : FnScope ["self", "place"] ["self", "place"] (defScope s_NoPlace___init__) := ⟨rfl, rfl, rfl, by decide +kernel, rfl, by decide +kernel, by decide +kernel⟩
abbrev s_NoName___init__ : Stmt := inClass (topS 6) 0
theorem sc_NoName___init__ : FnScope ["self", "name"] ["self", "name"] (defScope s_NoName___init__) := ⟨rfl, rfl, rfl, by decide +kernel, rfl, by decide +kernel, by decide +kernel⟩
abbrev s_BadDeed___init__ : Stmt := inClass (topS 5) 0
theorem sc_BadDeed___init__ : FnScope ["self", "at"] ["self", "at"] (defScope s_BadDeed___init__) := ⟨rfl, rfl, rfl, by decide +kernel, rfl, by decide +kernel, by decide +kernel⟩
abbrev s_BadRow___init__ : Stmt := inClass (topS 4) 0
theorem sc_BadRow___init__ : FnScope ["self", "row"] ["self", "row"] (defScope s_BadRow___init__) := ⟨rfl, rfl, rfl, by decide +kernel, rfl, by decide +kernel, by decide +kernel⟩
abbrev s_BadText___init__ : Stmt := inClass (topS 3) 0
theorem sc_BadText___init__ : FnScope ["self", "at"] ["self", "at"] (defScope s_BadText___init__) := ⟨rfl, rfl, rfl, by decide +kernel, rfl, by decide +kernel, by decide +kernel⟩
structure Errs (K : PySem.W.Frag) (mg : Str → Option Value) (T : Nat → Addr) : Prop where
  bIndexError : mg "IndexError" = none
  bKeyError : mg "KeyError" = none
  bLookupError : mg "LookupError" = none
  bNotImplementedError : mg "NotImplementedError" = none
  bOverflowError : mg "OverflowError" = none
  bRuntimeError : mg "RuntimeError" = none
  bValueError : mg "ValueError" = none
  c10 : CE K mg (T 10) "BadText"
  c11 : CE K mg (T 11) "BadRow"
  c12 : CE K mg (T 12) "BadDeed"
  c13 : CE K mg (T 13) "NoName"
  c14 : CE K mg (T 14) "NoPlace"
  c15 : CE K mg (T 15) "NoNumber"
  c16 : CE K mg (T 16) "NoDeed"
  c17 : CE K mg (T 17) "Never"
  c18 : CE K mg (T 18) "Known"
  c19 : CE K mg (T 19) "Last"
  c8 : CE K mg (T 8) "Unlike"
  c9 : CE K mg (T 9) "Alike"
  e10 : EC K (T 10)
  e11 : EC K (T 11)
  e12 : EC K (T 12)
  e13 : EC K (T 13)
  e14 : EC K (T 14)
  e15 : EC K (T 15)
  e16 : EC K (T 16)
  e17 : EC K (T 17)
  e18 : EC K (T 18)
  e19 : EC K (T 19)
  e8 : EC K (T 8)
  e9 : EC K (T 9)
  f10 : PySem.W.findIn K (.ref (T 10)) "at" = some none
  f11 : PySem.W.findIn K (.ref (T 11)) "row" = some none
  f12 : PySem.W.findIn K (.ref (T 12)) "at" = some none
  f13 : PySem.W.findIn K (.ref (T 13)) "name" = some none
  f14 : PySem.W.findIn K (.ref (T 14)) "place" = some none
  f15 : PySem.W.findIn K (.ref (T 15)) "number" = some none
  f16 : PySem.W.findIn K (.ref (T 16)) "many" = some none
  f17 : PySem.W.findIn K (.ref (T 17)) "ring" = some none
  f18 : PySem.W.findIn K (.ref (T 18)) "name" = some none
  f9 : PySem.W.findIn K (.ref (T 9)) "name" = some none
  k10 : UE1K K mg (T 10) "BadText" "at" "at"
  k11 : UE1K K mg (T 11) "BadRow" "row" "row"
  k12 : UE1K K mg (T 12) "BadDeed" "at" "at"
  k13 : UE1K K mg (T 13) "NoName" "name" "name"
  k14 : UE1K K mg (T 14) "NoPlace" "place" "place"
  k15 : UE1K K mg (T 15) "NoNumber" "number" "number"
  k16 : UE1K K mg (T 16) "NoDeed" "many" "many"
  k17 : UE1K K mg (T 17) "Never" "ring" "ring"
  k18 : UE1K K mg (T 18) "Known" "name" "name"
  k9 : UE1K K mg (T 9) "Alike" "name" "name"
  s10_10 : PySem.W.subIn K (.ref (T 10)) (.ref (T 10)) = some true
  s10_11 : PySem.W.subIn K (.ref (T 10)) (.ref (T 11)) = some false
  s10_12 : PySem.W.subIn K (.ref (T 10)) (.ref (T 12)) = some false
  s10_13 : PySem.W.subIn K (.ref (T 10)) (.ref (T 13)) = some false
  s10_14 : PySem.W.subIn K (.ref (T 10)) (.ref (T 14)) = some false
  s10_15 : PySem.W.subIn K (.ref (T 10)) (.ref (T 15)) = some false
  s10_16 : PySem.W.subIn K (.ref (T 10)) (.ref (T 16)) = some false
  s10_17 : PySem.W.subIn K (.ref (T 10)) (.ref (T 17)) = some false
  s10_18 : PySem.W.subIn K (.ref (T 10)) (.ref (T 18)) = some false
  s10_19 : PySem.W.subIn K (.ref (T 10)) (.ref (T 19)) = some false
  s10_8 : PySem.W.subIn K (.ref (T 10)) (.ref (T 8)) = some false
  s10_9 : PySem.W.subIn K (.ref (T 10)) (.ref (T 9)) = some false
  s11_10 : PySem.W.subIn K (.ref (T 11)) (.ref (T 10)) = some false
  s11_11 : PySem.W.subIn K (.ref (T 11)) (.ref (T 11)) = some true
  s11_12 : PySem.W.subIn K (.ref (T 11)) (.ref (T 12)) = some false
  s11_13 : PySem.W.subIn K (.ref (T 11)) (.ref (T 13)) = some false
  s11_14 : PySem.W.subIn K (.ref (T 11)) (.ref (T 14)) = some false
  s11_15 : PySem.W.subIn K (.ref (T 11)) (.ref (T 15)) = some false
  s11_16 : PySem.W.subIn K (.ref (T 11)) (.ref (T 16)) = some false
  s11_17 : PySem.W.subIn K (.ref (T 11)) (.ref (T 17)) = some false
  s11_18 : PySem.W.subIn K (.ref (T 11)) (.ref (T 18)) = some false
  s11_19 : PySem.W.subIn K (.ref (T 11)) (.ref (T 19)) = some false
  s11_8 : PySem.W.subIn K (.ref (T 11)) (.ref (T 8)) = some false
  s11_9 : PySem.W.subIn K (.ref (T 11)) (.ref (T 9)) = some false
  s12_10 : PySem.W.subIn K (.ref (T 12)) (.ref (T 10)) = some false
  s12_11 : PySem.W.subIn K (.ref (T 12)) (.ref (T 11)) = some false
  s12_12 : PySem.W.subIn K (.ref (T 12)) (.ref (T 12)) = some true
  s12_13 : PySem.W.subIn K (.ref (T 12)) (.ref (T 13)) = some false
  s12_14 : PySem.W.subIn K (.ref (T 12)) (.ref (T 14)) = some false
  s12_15 : PySem.W.subIn K (.ref (T 12)) (.ref (T 15)) = some false
  s12_16 : PySem.W.subIn K (.ref (T 12)) (.ref (T 16)) = some false
  s12_17 : PySem.W.subIn K (.ref (T 12)) (.ref (T 17)) = some false
  s12_18 : PySem.W.subIn K (.ref (T 12)) (.ref (T 18)) = some false
  s12_19 : PySem.W.subIn K (.ref (T 12)) (.ref (T 19)) = some false
  s12_8 : PySem.W.subIn K (.ref (T 12)) (.ref (T 8)) = some false
  s12_9 : PySem.W.subIn K (.ref (T 12)) (.ref (T 9)) = some false
  s13_10 : PySem.W.subIn K (.ref (T 13)) (.ref (T 10)) = some false
  s13_11 : PySem.W.subIn K (.ref (T 13)) (.ref (T 11)) = some false
  s13_12 : PySem.W.subIn K (.ref (T 13)) (.ref (T 12)) = some false
  s13_13 : PySem.W.subIn K (.ref (T 13)) (.ref (T 13)) = some true
  s13_14 : PySem.W.subIn K (.ref (T 13)) (.ref (T 14)) = some false
  s13_15 : PySem.W.subIn K (.ref (T 13)) (.ref (T 15)) = some false
  s13_16 : PySem.W.subIn K (.ref (T 13)) (.ref (T 16)) = some false
  s13_17 : PySem.W.subIn K (.ref (T 13)) (.ref (T 17)) = some false
  s13_18 : PySem.W.subIn K (.ref (T 13)) (.ref (T 18)) = some false
  s13_19 : PySem.W.subIn K (.ref (T 13)) (.ref (T 19)) = some false
  s13_8 : PySem.W.subIn K (.ref (T 13)) (.ref (T 8)) = some false
  s13_9 : PySem.W.subIn K (.ref (T 13)) (.ref (T 9)) = some false
  s14_10 : PySem.W.subIn K (.ref (T 14)) (.ref (T 10)) = some false
  s14_11 : PySem.W.subIn K (.ref (T 14)) (.ref (T 11)) = some false
  s14_12 : PySem.W.subIn K (.ref (T 14)) (.ref (T 12)) = some false
  s14_13 : PySem.W.subIn K (.ref (T 14)) (.ref (T 13)) = some false
  s14_14 : PySem.W.subIn K (.ref (T 14)) (.ref (T 14)) = some true
  s14_15 : PySem.W.subIn K (.ref (T 14)) (.ref (T 15)) = some false
  s14_16 : PySem.W.subIn K (.ref (T 14)) (.ref (T 16)) = some false
  s14_17 : PySem.W.subIn K (.ref (T 14)) (.ref (T 17)) = some false
  s14_18 : PySem.W.subIn K (.ref (T 14)) (.ref (T 18)) = some false
  s14_19 : PySem.W.subIn K (.ref (T 14)) (.ref (T 19)) = some false
  s14_8 : PySem.W.subIn K (.ref (T 14)) (.ref (T 8)) = some false
  s14_9 : PySem.W.subIn K (.ref (T 14)) (.ref (T 9)) = some false
  s15_10 : PySem.W.subIn K (.ref (T 15)) (.ref (T 10)) = some false
  s15_11 : PySem.W.subIn K (.ref (T 15)) (.ref (T 11)) = some false
  s15_12 : PySem.W.subIn K (.ref (T 15)) (.ref (T 12)) = some false
  s15_13 : PySem.W.subIn K (.ref (T 15)) (.ref (T 13)) = some false
  s15_14 : PySem.W.subIn K (.ref (T 15)) (.ref (T 14)) = some false
  s15_15 : PySem.W.subIn K (.ref (T 15)) (.ref (T 15)) = some true
  s15_16 : PySem.W.subIn K (.ref (T 15)) (.ref (T 16)) = some false
  s15_17 : PySem.W.subIn K (.ref (T 15)) (.ref (T 17)) = some false
  s15_18 : PySem.W.subIn K (.ref (T 15)) (.ref (T 18)) = some false
  s15_19 : PySem.W.subIn K (.ref (T 15)) (.ref (T 19)) = some false
  s15_8 : PySem.W.subIn K (.ref (T 15)) (.ref (T 8)) = some false
  s15_9 : PySem.W.subIn K (.ref (T 15)) (.ref (T 9)) = some false
  s16_10 : PySem.W.subIn K (.ref (T 16)) (.ref (T 10)) = some false
  s16_11 : PySem.W.subIn K (.ref (T 16)) (.ref (T 11)) = some false
  s16_12 : PySem.W.subIn K (.ref (T 16)) (.ref (T 12)) = some false
  s16_13 : PySem.W.subIn K (.ref (T 16)) (.ref (T 13)) = some false
  s16_14 : PySem.W.subIn K (.ref (T 16)) (.ref (T 14)) = some false
  s16_15 : PySem.W.subIn K (.ref (T 16)) (.ref (T 15)) = some false
  s16_16 : PySem.W.subIn K (.ref (T 16)) (.ref (T 16)) = some true
  s16_17 : PySem.W.subIn K (.ref (T 16)) (.ref (T 17)) = some false
  s16_18 : PySem.W.subIn K (.ref (T 16)) (.ref (T 18)) = some false
  s16_19 : PySem.W.subIn K (.ref (T 16)) (.ref (T 19)) = some false
  s16_8 : PySem.W.subIn K (.ref (T 16)) (.ref (T 8)) = some false
  s16_9 : PySem.W.subIn K (.ref (T 16)) (.ref (T 9)) = some false
  s17_10 : PySem.W.subIn K (.ref (T 17)) (.ref (T 10)) = some false
  s17_11 : PySem.W.subIn K (.ref (T 17)) (.ref (T 11)) = some false
  s17_12 : PySem.W.subIn K (.ref (T 17)) (.ref (T 12)) = some false
  s17_13 : PySem.W.subIn K (.ref (T 17)) (.ref (T 13)) = some false
  s17_14 : PySem.W.subIn K (.ref (T 17)) (.ref (T 14)) = some false
  s17_15 : PySem.W.subIn K (.ref (T 17)) (.ref (T 15)) = some false
  s17_16 : PySem.W.subIn K (.ref (T 17)) (.ref (T 16)) = some false
  s17_17 : PySem.W.subIn K (.ref (T 17)) (.ref (T 17)) = some true
  s17_18 : PySem.W.subIn K (.ref (T 17)) (.ref (T 18)) = some false
  s17_19 : PySem.W.subIn K (.ref (T 17)) (.ref (T 19)) = some false
  s17_8 : PySem.W.subIn K (.ref (T 17)) (.ref (T 8)) = some false
  s17_9 : PySem.W.subIn K (.ref (T 17)) (.ref (T 9)) = some false
  s18_10 : PySem.W.subIn K (.ref (T 18)) (.ref (T 10)) = some false
  s18_11 : PySem.W.subIn K (.ref (T 18)) (.ref (T 11)) = some false
  s18_12 : PySem.W.subIn K (.ref (T 18)) (.ref (T 12)) = some false
  s18_13 : PySem.W.subIn K (.ref (T 18)) (.ref (T 13)) = some false
  s18_14 : PySem.W.subIn K (.ref (T 18)) (.ref (T 14)) = some false
  s18_15 : PySem.W.subIn K (.ref (T 18)) (.ref (T 15)) = some false
  s18_16 : PySem.W.subIn K (.ref (T 18)) (.ref (T 16)) = some false
  s18_17 : PySem.W.subIn K (.ref (T 18)) (.ref (T 17)) = some false
  s18_18 : PySem.W.subIn K (.ref (T 18)) (.ref (T 18)) = some true
  s18_19 : PySem.W.subIn K (.ref (T 18)) (.ref (T 19)) = some false
  s18_8 : PySem.W.subIn K (.ref (T 18)) (.ref (T 8)) = some false
  s18_9 : PySem.W.subIn K (.ref (T 18)) (.ref (T 9)) = some false
  s19_10 : PySem.W.subIn K (.ref (T 19)) (.ref (T 10)) = some false
  s19_11 : PySem.W.subIn K (.ref (T 19)) (.ref (T 11)) = some false
  s19_12 : PySem.W.subIn K (.ref (T 19)) (.ref (T 12)) = some false
  s19_13 : PySem.W.subIn K (.ref (T 19)) (.ref (T 13)) = some false
  s19_14 : PySem.W.subIn K (.ref (T 19)) (.ref (T 14)) = some false
  s19_15 : PySem.W.subIn K (.ref (T 19)) (.ref (T 15)) = some false
  s19_16 : PySem.W.subIn K (.ref (T 19)) (.ref (T 16)) = some false
  s19_17 : PySem.W.subIn K (.ref (T 19)) (.ref (T 17)) = some false
  s19_18 : PySem.W.subIn K (.ref (T 19)) (.ref (T 18)) = some false
  s19_19 : PySem.W.subIn K (.ref (T 19)) (.ref (T 19)) = some true
  s19_8 : PySem.W.subIn K (.ref (T 19)) (.ref (T 8)) = some false
  s19_9 : PySem.W.subIn K (.ref (T 19)) (.ref (T 9)) = some false
  s8_10 : PySem.W.subIn K (.ref (T 8)) (.ref (T 10)) = some false
  s8_11 : PySem.W.subIn K (.ref (T 8)) (.ref (T 11)) = some false
  s8_12 : PySem.W.subIn K (.ref (T 8)) (.ref (T 12)) = some false
  s8_13 : PySem.W.subIn K (.ref (T 8)) (.ref (T 13)) = some false
  s8_14 : PySem.W.subIn K (.ref (T 8)) (.ref (T 14)) = some false
  s8_15 : PySem.W.subIn K (.ref (T 8)) (.ref (T 15)) = some false
  s8_16 : PySem.W.subIn K (.ref (T 8)) (.ref (T 16)) = some false
  s8_17 : PySem.W.subIn K (.ref (T 8)) (.ref (T 17)) = some false
  s8_18 : PySem.W.subIn K (.ref (T 8)) (.ref (T 18)) = some false
  s8_19 : PySem.W.subIn K (.ref (T 8)) (.ref (T 19)) = some false
  s8_8 : PySem.W.subIn K (.ref (T 8)) (.ref (T 8)) = some true
  s8_9 : PySem.W.subIn K (.ref (T 8)) (.ref (T 9)) = some false
  s9_10 : PySem.W.subIn K (.ref (T 9)) (.ref (T 10)) = some false
  s9_11 : PySem.W.subIn K (.ref (T 9)) (.ref (T 11)) = some false
  s9_12 : PySem.W.subIn K (.ref (T 9)) (.ref (T 12)) = some false
  s9_13 : PySem.W.subIn K (.ref (T 9)) (.ref (T 13)) = some false
  s9_14 : PySem.W.subIn K (.ref (T 9)) (.ref (T 14)) = some false
  s9_15 : PySem.W.subIn K (.ref (T 9)) (.ref (T 15)) = some false
  s9_16 : PySem.W.subIn K (.ref (T 9)) (.ref (T 16)) = some false
  s9_17 : PySem.W.subIn K (.ref (T 9)) (.ref (T 17)) = some false
  s9_18 : PySem.W.subIn K (.ref (T 9)) (.ref (T 18)) = some false
  s9_19 : PySem.W.subIn K (.ref (T 9)) (.ref (T 19)) = some false
  s9_8 : PySem.W.subIn K (.ref (T 9)) (.ref (T 8)) = some false
  s9_9 : PySem.W.subIn K (.ref (T 9)) (.ref (T 9)) = some true
  u10 : UE1 K mg (T 10) "BadText" "at"
  u11 : UE1 K mg (T 11) "BadRow" "row"
  u12 : UE1 K mg (T 12) "BadDeed" "at"
  u13 : UE1 K mg (T 13) "NoName" "name"
  u14 : UE1 K mg (T 14) "NoPlace" "place"
  u15 : UE1 K mg (T 15) "NoNumber" "number"
  u16 : UE1 K mg (T 16) "NoDeed" "many"
  u17 : UE1 K mg (T 17) "Never" "ring"
  u18 : UE1 K mg (T 18) "Known" "name"
  u19 : UER K mg (T 19) "Last"
  u8 : UE K mg (T 8) "Unlike"
  u9 : UE1 K mg (T 9) "Alike" "name"
  v10_IndexError : PySem.W.subIn K (.ref (T 10)) (.type "IndexError") = some false
  v10_KeyError : PySem.W.subIn K (.ref (T 10)) (.type "KeyError") = some false
  v10_LookupError : PySem.W.subIn K (.ref (T 10)) (.type "LookupError") = some false
  v10_NotImplementedError : PySem.W.subIn K (.ref (T 10)) (.type "NotImplementedError") = some false
  v10_OverflowError : PySem.W.subIn K (.ref (T 10)) (.type "OverflowError") = some false
  v10_RuntimeError : PySem.W.subIn K (.ref (T 10)) (.type "RuntimeError") = some false
  v10_ValueError : PySem.W.subIn K (.ref (T 10)) (.type "ValueError") = some true
  v11_IndexError : PySem.W.subIn K (.ref (T 11)) (.type "IndexError") = some false
  v11_KeyError : PySem.W.subIn K (.ref (T 11)) (.type "KeyError") = some false
  v11_LookupError : PySem.W.subIn K (.ref (T 11)) (.type "LookupError") = some false
  v11_NotImplementedError : PySem.W.subIn K (.ref (T 11)) (.type "NotImplementedError") = some false
  v11_OverflowError : PySem.W.subIn K (.ref (T 11)) (.type "OverflowError") = some false
  v11_RuntimeError : PySem.W.subIn K (.ref (T 11)) (.type "RuntimeError") = some false
  v11_ValueError : PySem.W.subIn K (.ref (T 11)) (.type "ValueError") = some true
  v12_IndexError : PySem.W.subIn K (.ref (T 12)) (.type "IndexError") = some false
  v12_KeyError : PySem.W.subIn K (.ref (T 12)) (.type "KeyError") = some false
  v12_LookupError : PySem.W.subIn K (.ref (T 12)) (.type "LookupError") = some false
  v12_NotImplementedError : PySem.W.subIn K (.ref (T 12)) (.type "NotImplementedError") = some false
  v12_OverflowError : PySem.W.subIn K (.ref (T 12)) (.type "OverflowError") = some false
  v12_RuntimeError : PySem.W.subIn K (.ref (T 12)) (.type "RuntimeError") = some false
  v12_ValueError : PySem.W.subIn K (.ref (T 12)) (.type "ValueError") = some true
  v13_IndexError : PySem.W.subIn K (.ref (T 13)) (.type "IndexError") = some false
  v13_KeyError : PySem.W.subIn K (.ref (T 13)) (.type "KeyError") = some false
  v13_LookupError : PySem.W.subIn K (.ref (T 13)) (.type "LookupError") = some true
  v13_NotImplementedError : PySem.W.subIn K (.ref (T 13)) (.type "NotImplementedError") = some false
  v13_OverflowError : PySem.W.subIn K (.ref (T 13)) (.type "OverflowError") = some false
  v13_RuntimeError : PySem.W.subIn K (.ref (T 13)) (.type "RuntimeError") = some false
  v13_ValueError : PySem.W.subIn K (.ref (T 13)) (.type "ValueError") = some false
  v14_IndexError : PySem.W.subIn K (.ref (T 14)) (.type "IndexError") = some false
  v14_KeyError : PySem.W.subIn K (.ref (T 14)) (.type "KeyError") = some false
  v14_LookupError : PySem.W.subIn K (.ref (T 14)) (.type "LookupError") = some true
  v14_NotImplementedError : PySem.W.subIn K (.ref (T 14)) (.type "NotImplementedError") = some false
  v14_OverflowError : PySem.W.subIn K (.ref (T 14)) (.type "OverflowError") = some false
  v14_RuntimeError : PySem.W.subIn K (.ref (T 14)) (.type "RuntimeError") = some false
  v14_ValueError : PySem.W.subIn K (.ref (T 14)) (.type "ValueError") = some false
  v15_IndexError : PySem.W.subIn K (.ref (T 15)) (.type "IndexError") = some false
  v15_KeyError : PySem.W.subIn K (.ref (T 15)) (.type "KeyError") = some false
  v15_LookupError : PySem.W.subIn K (.ref (T 15)) (.type "LookupError") = some true
  v15_NotImplementedError : PySem.W.subIn K (.ref (T 15)) (.type "NotImplementedError") = some false
  v15_OverflowError : PySem.W.subIn K (.ref (T 15)) (.type "OverflowError") = some false
  v15_RuntimeError : PySem.W.subIn K (.ref (T 15)) (.type "RuntimeError") = some false
  v15_ValueError : PySem.W.subIn K (.ref (T 15)) (.type "ValueError") = some false
  v16_IndexError : PySem.W.subIn K (.ref (T 16)) (.type "IndexError") = some false
  v16_KeyError : PySem.W.subIn K (.ref (T 16)) (.type "KeyError") = some false
  v16_LookupError : PySem.W.subIn K (.ref (T 16)) (.type "LookupError") = some true
  v16_NotImplementedError : PySem.W.subIn K (.ref (T 16)) (.type "NotImplementedError") = some false
  v16_OverflowError : PySem.W.subIn K (.ref (T 16)) (.type "OverflowError") = some false
  v16_RuntimeError : PySem.W.subIn K (.ref (T 16)) (.type "RuntimeError") = some false
  v16_ValueError : PySem.W.subIn K (.ref (T 16)) (.type "ValueError") = some false
  v17_IndexError : PySem.W.subIn K (.ref (T 17)) (.type "IndexError") = some false
  v17_KeyError : PySem.W.subIn K (.ref (T 17)) (.type "KeyError") = some false
  v17_LookupError : PySem.W.subIn K (.ref (T 17)) (.type "LookupError") = some false
  v17_NotImplementedError : PySem.W.subIn K (.ref (T 17)) (.type "NotImplementedError") = some false
  v17_OverflowError : PySem.W.subIn K (.ref (T 17)) (.type "OverflowError") = some false
  v17_RuntimeError : PySem.W.subIn K (.ref (T 17)) (.type "RuntimeError") = some true
  v17_ValueError : PySem.W.subIn K (.ref (T 17)) (.type "ValueError") = some false
  v18_IndexError : PySem.W.subIn K (.ref (T 18)) (.type "IndexError") = some false
  v18_KeyError : PySem.W.subIn K (.ref (T 18)) (.type "KeyError") = some false
  v18_LookupError : PySem.W.subIn K (.ref (T 18)) (.type "LookupError") = some false
  v18_NotImplementedError : PySem.W.subIn K (.ref (T 18)) (.type "NotImplementedError") = some false
  v18_OverflowError : PySem.W.subIn K (.ref (T 18)) (.type "OverflowError") = some false
  v18_RuntimeError : PySem.W.subIn K (.ref (T 18)) (.type "RuntimeError") = some true
  v18_ValueError : PySem.W.subIn K (.ref (T 18)) (.type "ValueError") = some false
  v19_IndexError : PySem.W.subIn K (.ref (T 19)) (.type "IndexError") = some false
  v19_KeyError : PySem.W.subIn K (.ref (T 19)) (.type "KeyError") = some false
  v19_LookupError : PySem.W.subIn K (.ref (T 19)) (.type "LookupError") = some false
  v19_NotImplementedError : PySem.W.subIn K (.ref (T 19)) (.type "NotImplementedError") = some false
  v19_OverflowError : PySem.W.subIn K (.ref (T 19)) (.type "OverflowError") = some false
  v19_RuntimeError : PySem.W.subIn K (.ref (T 19)) (.type "RuntimeError") = some true
  v19_ValueError : PySem.W.subIn K (.ref (T 19)) (.type "ValueError") = some false
  v8_IndexError : PySem.W.subIn K (.ref (T 8)) (.type "IndexError") = some false
  v8_KeyError : PySem.W.subIn K (.ref (T 8)) (.type "KeyError") = some false
  v8_LookupError : PySem.W.subIn K (.ref (T 8)) (.type "LookupError") = some false
  v8_NotImplementedError : PySem.W.subIn K (.ref (T 8)) (.type "NotImplementedError") = some false
  v8_OverflowError : PySem.W.subIn K (.ref (T 8)) (.type "OverflowError") = some false
  v8_RuntimeError : PySem.W.subIn K (.ref (T 8)) (.type "RuntimeError") = some false
  v8_ValueError : PySem.W.subIn K (.ref (T 8)) (.type "ValueError") = some true
  v9_IndexError : PySem.W.subIn K (.ref (T 9)) (.type "IndexError") = some false
  v9_KeyError : PySem.W.subIn K (.ref (T 9)) (.type "KeyError") = some false
  v9_LookupError : PySem.W.subIn K (.ref (T 9)) (.type "LookupError") = some false
  v9_NotImplementedError : PySem.W.subIn K (.ref (T 9)) (.type "NotImplementedError") = some false
  v9_OverflowError : PySem.W.subIn K (.ref (T 9)) (.type "OverflowError") = some false
  v9_RuntimeError : PySem.W.subIn K (.ref (T 9)) (.type "RuntimeError") = some false
  v9_ValueError : PySem.W.subIn K (.ref (T 9)) (.type "ValueError") = some true
abbrev s__law_box : Stmt := topS 14
abbrev N__law_box : List Str := ["_law_script", "_law_k", "_law_cell"]
theorem sc__law_box : FnScope N__law_box ["_law_script", "_law_k"] (defScope s__law_box) := ⟨rfl, rfl, rfl, by decide +kernel, rfl, by decide +kernel, by decide +kernel⟩
abbrev s__law_take : Stmt := topS 15
abbrev N__law_take : List Str := ["_law_box_here", "_law_size", "_law_once", "_law_found"]
theorem sc__law_take : FnScope N__law_take ["_law_box_here", "_law_size"] (defScope s__law_take) := ⟨rfl, rfl, rfl, by decide +kernel, rfl, by decide +kernel, by decide +kernel⟩
abbrev s__law_folded : Stmt := topS 18
abbrev N__law_folded : List Str := ["_law_script", "_law_size", "_law_cells", "_law_k", "_law_cell"]
theorem sc__law_folded : FnScope N__law_folded ["_law_script", "_law_size"] (defScope s__law_folded) := ⟨rfl, rfl, rfl, by decide +kernel, rfl, by decide +kernel, by decide +kernel⟩
abbrev s__law_kinds : Stmt := topS 19
abbrev N__law_kinds : List Str := ["_law_error", "_law_found"]
theorem sc__law_kinds : FnScope N__law_kinds ["_law_error"] (defScope s__law_kinds) := ⟨rfl, rfl, rfl, by decide +kernel, rfl, by decide +kernel, by decide +kernel⟩
abbrev s__law_bases : Stmt := topS 20
abbrev N__law_bases : List Str := ["_law_error", "_law_found"]
theorem sc__law_bases : FnScope N__law_bases ["_law_error"] (defScope s__law_bases) := ⟨rfl, rfl, rfl, by decide +kernel, rfl, by decide +kernel, by decide +kernel⟩
abbrev s__law_pick : Stmt := topS 16
abbrev N__law_pick : List Str := ["_law_box_here", "_law_some"]
theorem sc__law_pick : FnScope N__law_pick ["_law_box_here", "_law_some"] (defScope s__law_pick) := ⟨rfl, rfl, rfl, by decide +kernel, rfl, by decide +kernel, by decide +kernel⟩
abbrev s__law_same : Stmt := topS 17
abbrev N__law_same : List Str := ["_law_found", "_law_due", "_law_one", "_law_two"]
theorem sc__law_same : FnScope N__law_same ["_law_found", "_law_due"] (defScope s__law_same) := ⟨rfl, rfl, rfl, by decide +kernel, rfl, by decide +kernel, by decide +kernel⟩
abbrev s__law_made_right : Stmt := topS 21
abbrev N__law_made_right : List Str := ["_law_made", "_law_due", "_law_text", "_law_some", "_law_told", "_law_spot", "_law_error", "_law_base", "_law_k"]
theorem sc__law_made_right : FnScope N__law_made_right ["_law_made", "_law_due", "_law_text", "_law_some"] (defScope s__law_made_right) := ⟨rfl, rfl, rfl, by decide +kernel, rfl, by decide +kernel, by decide +kernel⟩
abbrev s__law_right : Stmt := topS 22
abbrev N__law_right : List Str := ["_law_box_here", "_law_due", "_law_made", "_law_so_called", "_law_text", "_law_some", "_law_k"]
theorem sc__law_right : FnScope N__law_right ["_law_box_here"] (defScope s__law_right) := ⟨rfl, rfl, rfl, by decide +kernel, rfl, by decide +kernel, by decide +kernel⟩
abbrev s_law : Stmt := topS 23
abbrev N_law : List Str := ["_law_script", "_law_cells", "_law_k"]
theorem sc_law : FnScope N_law ["_law_script"] (defScope s_law) := ⟨rfl, rfl, rfl, by decide +kernel, rfl, by decide +kernel, by decide +kernel⟩
theorem ok__law_box (f : Addr) (fd : FuncData) (F : Fun K "_law_box" "_law_box" s__law_box f fd) (hm : mg "_law_box" = some (.ref f)) (B : Bi mg)   : GD HW.P HW.w K mg base 1 "_law_box" s__law_box ["_law_script", "_law_k"] m__law_box := gd_ok true F hm sc__law_box fun cdv A outer s H E hr =>
    ds_cons (ds_set (ps_set (i := 2) sc__law_box.nd rfl (Or.inl rfl) (d_int)))
    (ds_cons (ds_if (t_lt (dv 1 (pv 1)) (d_len B.len (da_cons (dv 0 (pv 0)) (da_nil)))) (ds_one (ds_set (ps_set (i := 2) sc__law_box.nd rfl (Or.inl rfl) (d_idx hr.room (dv 0 (pv 0)) (dv 1 (pv 1)) (fun _ _ => rfl))))) (ds_nil))
    (ds_one (ds_ret (d_lst true (da_cons (d_mul false (d_abs B.abs (da_cons (dv 2 (pv 2)) (da_nil))) (d_intC B.int (da_cons (d_ge (d_abs B.abs (da_cons (dv 2 (pv 2)) (da_nil))) (d_pow (d_int) (d_int))) (da_nil)))) (da_cons (d_add false (d_add false (d_mod (dv 2 (pv 2)) (d_int)) (d_mul false (d_int) (dv 1 (pv 1)))) (d_int)) (da_cons (d_int) (da_nil))))))))
theorem ok__law_take (f : Addr) (fd : FuncData) (F : Fun K "_law_take" "_law_take" s__law_take f fd) (hm : mg "_law_take" = some (.ref f)) (B : Bi mg)   : GD HW.P HW.w K mg base 1 "_law_take" s__law_take ["_law_box_here", "_law_size"] m__law_take := gd_ok false F hm sc__law_take fun cdv A outer s H E hr =>
    ds_cons (ds_if (t_gt (d_idx hr.room (dv 0 (pv 0)) (d_int) (fun _ _ => rfl)) (d_int)) (ds_cons (ds_set (ps_set (i := 3) sc__law_take.nd rfl (Or.inl rfl) (d_mod (d_idx hr.room (dv 0 (pv 0)) (d_int) (fun _ _ => rfl)) (dv 1 (pv 1)))))
    (ds_cons (ds_sub (d_div (d_idx hr.room (dv 0 (pv 0)) (d_int) (fun _ _ => rfl)) (dv 1 (pv 1))) (dv 0 (pv 0)) (d_int) (ps_asg (d_div (d_idx hr.room (dv 0 (pv 0)) (d_int) (fun _ _ => rfl)) (dv 1 (pv 1))) (pg_sub (dv 0 (pv 0)) (d_int) set_list)))
    (ds_one (ds_ret (dv 3 (pv 3)))))) (ds_nil))
    (ds_cons (ds_sub (d_add false (d_idx hr.room (dv 0 (pv 0)) (d_int) (fun _ _ => rfl)) (d_int)) (dv 0 (pv 0)) (d_int) (ps_asg (d_add false (d_idx hr.room (dv 0 (pv 0)) (d_int) (fun _ _ => rfl)) (d_int)) (pg_sub (dv 0 (pv 0)) (d_int) set_list)))
    (ds_cons (ds_set (ps_set (i := 2) sc__law_take.nd rfl (Or.inl rfl) (d_mod (d_pow (d_add false (d_idx hr.room (dv 0 (pv 0)) (d_int) (fun _ _ => rfl)) (d_mul false (d_int) (d_idx hr.room (dv 0 (pv 0)) (d_int) (fun _ _ => rfl)))) (d_int)) (d_int))))
    (ds_one (ds_ret (d_mod (d_div (d_mod (d_add false (d_mul false (dv 2 (pv 2)) (d_add false (d_mod (dv 2 (pv 2)) (d_int)) (d_int))) (d_mul false (d_idx hr.room (dv 0 (pv 0)) (d_int) (fun _ _ => rfl)) (d_int))) (d_int)) (d_int)) (dv 1 (pv 1)))))))
theorem ok__law_folded (f : Addr) (fd : FuncData) (F : Fun K "_law_folded" "_law_folded" s__law_folded f fd) (hm : mg "_law_folded" = some (.ref f)) (B : Bi mg)   : GD HW.P HW.w K mg base 1 "_law_folded" s__law_folded ["_law_script", "_law_size"] m__law_folded := gd_ok false F hm sc__law_folded fun cdv A outer s H E hr =>
    ds_cons (ds_set (ps_set (i := 2) sc__law_folded.nd rfl (Or.inl rfl) (d_list true B.list (da_cons (d_slice false (dv 0 (pv 0)) (do_none) (do_some (dv 1 (pv 1)))) (da_nil)))))
    (ds_cons (ds_for rfl PassesOwn.never (di_enumA B.enumerate (da_cons (d_slice false (dv 0 (pv 0)) (do_some (dv 1 (pv 1))) (do_some (d_int))) (da_nil))) (dg_tup rfl (dgs_cons (dg_name 3 (pg_name (i := 3) sc__law_folded.nd rfl (Or.inl rfl))) (dgs_cons (dg_name 4 (pg_name (i := 4) sc__law_folded.nd rfl (Or.inl rfl))) (dgs_nil))))
    (ds_one (ds_sub (d_add false (d_idx hr.room (dv 2 (pv 2)) (d_mod (dv 3 (pv 3)) (dv 1 (pv 1))) (fun _ _ => rfl)) (d_mul false (dv 4 (pv 4)) (d_add false (dv 3 (pv 3)) (d_int)))) (dv 2 (pv 2)) (d_mod (dv 3 (pv 3)) (dv 1 (pv 1))) (ps_asg (d_add false (d_idx hr.room (dv 2 (pv 2)) (d_mod (dv 3 (pv 3)) (dv 1 (pv 1))) (fun _ _ => rfl)) (d_mul false (dv 4 (pv 4)) (d_add false (dv 3 (pv 3)) (d_int)))) (pg_sub (dv 2 (pv 2)) (d_mod (dv 3 (pv 3)) (dv 1 (pv 1))) set_list)))))
    (ds_frz 2 (ds_one (ds_ret (d_if (t_ne hr.room (dv 2 (pv 2)) (d_lst false (da_nil))) (dv 2 (pv 2)) (d_lst false (da_cons (d_int) (da_nil))))))))
theorem ok__law_kinds (f : Addr) (fd : FuncData) (F : Fun K "_law_kinds" "_law_kinds" s__law_kinds f fd) (hm : mg "_law_kinds" = some (.ref f)) (B : Bi mg) (T : Nat → Addr)   (ER : Errs K mg T) : GD HW.P HW.w K mg base 1 "_law_kinds" s__law_kinds ["_law_error"] (m__law_kinds T) := gd_ok false F hm sc__law_kinds fun cdv A outer s H E hr =>
    ds_cons (ds_set (ps_set (i := 1) sc__law_kinds.nd rfl (Or.inl rfl) (d_lst false (da_cons (d_isE B.isinstance ER.c8.at_ (all_cons (⟨ER.e8, kit_same⟩) (all_cons (⟨ER.e9, (kit_not ER.c8 ER.s9_8 ER.s9_9)⟩) (all_cons (⟨ER.e10, (kit_not ER.c8 ER.s10_8 ER.s10_10)⟩) (all_cons (⟨ER.e11, (kit_not ER.c8 ER.s11_8 ER.s11_11)⟩) (all_cons (⟨ER.e12, (kit_not ER.c8 ER.s12_8 ER.s12_12)⟩) (all_cons (⟨ER.e13, (kit_not ER.c8 ER.s13_8 ER.s13_13)⟩) (all_cons (⟨ER.e14, (kit_not ER.c8 ER.s14_8 ER.s14_14)⟩) (all_cons (⟨ER.e15, (kit_not ER.c8 ER.s15_8 ER.s15_15)⟩) (all_cons (⟨ER.e16, (kit_not ER.c8 ER.s16_8 ER.s16_16)⟩) (all_cons (⟨ER.e17, (kit_not ER.c8 ER.s17_8 ER.s17_17)⟩) (all_cons (⟨ER.e18, (kit_not ER.c8 ER.s18_8 ER.s18_18)⟩) (all_cons (⟨ER.e19, (kit_not ER.c8 ER.s19_8 ER.s19_19)⟩) (all_nil))))))))))))) (dv 0 (pv 0))) (da_cons (d_isE B.isinstance ER.c9.at_ (all_cons (⟨ER.e8, (kit_not ER.c9 ER.s8_9 ER.s8_8)⟩) (all_cons (⟨ER.e9, kit_same⟩) (all_cons (⟨ER.e10, (kit_not ER.c9 ER.s10_9 ER.s10_10)⟩) (all_cons (⟨ER.e11, (kit_not ER.c9 ER.s11_9 ER.s11_11)⟩) (all_cons (⟨ER.e12, (kit_not ER.c9 ER.s12_9 ER.s12_12)⟩) (all_cons (⟨ER.e13, (kit_not ER.c9 ER.s13_9 ER.s13_13)⟩) (all_cons (⟨ER.e14, (kit_not ER.c9 ER.s14_9 ER.s14_14)⟩) (all_cons (⟨ER.e15, (kit_not ER.c9 ER.s15_9 ER.s15_15)⟩) (all_cons (⟨ER.e16, (kit_not ER.c9 ER.s16_9 ER.s16_16)⟩) (all_cons (⟨ER.e17, (kit_not ER.c9 ER.s17_9 ER.s17_17)⟩) (all_cons (⟨ER.e18, (kit_not ER.c9 ER.s18_9 ER.s18_18)⟩) (all_cons (⟨ER.e19, (kit_not ER.c9 ER.s19_9 ER.s19_19)⟩) (all_nil))))))))))))) (dv 0 (pv 0))) (da_cons (d_isE B.isinstance ER.c10.at_ (all_cons (⟨ER.e8, (kit_not ER.c10 ER.s8_10 ER.s8_8)⟩) (all_cons (⟨ER.e9, (kit_not ER.c10 ER.s9_10 ER.s9_9)⟩) (all_cons (⟨ER.e10, kit_same⟩) (all_cons (⟨ER.e11, (kit_not ER.c10 ER.s11_10 ER.s11_11)⟩) (all_cons (⟨ER.e12, (kit_not ER.c10 ER.s12_10 ER.s12_12)⟩) (all_cons (⟨ER.e13, (kit_not ER.c10 ER.s13_10 ER.s13_13)⟩) (all_cons (⟨ER.e14, (kit_not ER.c10 ER.s14_10 ER.s14_14)⟩) (all_cons (⟨ER.e15, (kit_not ER.c10 ER.s15_10 ER.s15_15)⟩) (all_cons (⟨ER.e16, (kit_not ER.c10 ER.s16_10 ER.s16_16)⟩) (all_cons (⟨ER.e17, (kit_not ER.c10 ER.s17_10 ER.s17_17)⟩) (all_cons (⟨ER.e18, (kit_not ER.c10 ER.s18_10 ER.s18_18)⟩) (all_cons (⟨ER.e19, (kit_not ER.c10 ER.s19_10 ER.s19_19)⟩) (all_nil))))))))))))) (dv 0 (pv 0))) (da_nil)))))))
    (ds_cons (ds_set (ps_set (i := 1) sc__law_kinds.nd rfl (Or.inl rfl) (d_add false (dv 1 (pv 1)) (d_lst false (da_cons (d_isE B.isinstance ER.c11.at_ (all_cons (⟨ER.e8, (kit_not ER.c11 ER.s8_11 ER.s8_8)⟩) (all_cons (⟨ER.e9, (kit_not ER.c11 ER.s9_11 ER.s9_9)⟩) (all_cons (⟨ER.e10, (kit_not ER.c11 ER.s10_11 ER.s10_10)⟩) (all_cons (⟨ER.e11, kit_same⟩) (all_cons (⟨ER.e12, (kit_not ER.c11 ER.s12_11 ER.s12_12)⟩) (all_cons (⟨ER.e13, (kit_not ER.c11 ER.s13_11 ER.s13_13)⟩) (all_cons (⟨ER.e14, (kit_not ER.c11 ER.s14_11 ER.s14_14)⟩) (all_cons (⟨ER.e15, (kit_not ER.c11 ER.s15_11 ER.s15_15)⟩) (all_cons (⟨ER.e16, (kit_not ER.c11 ER.s16_11 ER.s16_16)⟩) (all_cons (⟨ER.e17, (kit_not ER.c11 ER.s17_11 ER.s17_17)⟩) (all_cons (⟨ER.e18, (kit_not ER.c11 ER.s18_11 ER.s18_18)⟩) (all_cons (⟨ER.e19, (kit_not ER.c11 ER.s19_11 ER.s19_19)⟩) (all_nil))))))))))))) (dv 0 (pv 0))) (da_cons (d_isE B.isinstance ER.c12.at_ (all_cons (⟨ER.e8, (kit_not ER.c12 ER.s8_12 ER.s8_8)⟩) (all_cons (⟨ER.e9, (kit_not ER.c12 ER.s9_12 ER.s9_9)⟩) (all_cons (⟨ER.e10, (kit_not ER.c12 ER.s10_12 ER.s10_10)⟩) (all_cons (⟨ER.e11, (kit_not ER.c12 ER.s11_12 ER.s11_11)⟩) (all_cons (⟨ER.e12, kit_same⟩) (all_cons (⟨ER.e13, (kit_not ER.c12 ER.s13_12 ER.s13_13)⟩) (all_cons (⟨ER.e14, (kit_not ER.c12 ER.s14_12 ER.s14_14)⟩) (all_cons (⟨ER.e15, (kit_not ER.c12 ER.s15_12 ER.s15_15)⟩) (all_cons (⟨ER.e16, (kit_not ER.c12 ER.s16_12 ER.s16_16)⟩) (all_cons (⟨ER.e17, (kit_not ER.c12 ER.s17_12 ER.s17_17)⟩) (all_cons (⟨ER.e18, (kit_not ER.c12 ER.s18_12 ER.s18_18)⟩) (all_cons (⟨ER.e19, (kit_not ER.c12 ER.s19_12 ER.s19_19)⟩) (all_nil))))))))))))) (dv 0 (pv 0))) (da_cons (d_isE B.isinstance ER.c13.at_ (all_cons (⟨ER.e8, (kit_not ER.c13 ER.s8_13 ER.s8_8)⟩) (all_cons (⟨ER.e9, (kit_not ER.c13 ER.s9_13 ER.s9_9)⟩) (all_cons (⟨ER.e10, (kit_not ER.c13 ER.s10_13 ER.s10_10)⟩) (all_cons (⟨ER.e11, (kit_not ER.c13 ER.s11_13 ER.s11_11)⟩) (all_cons (⟨ER.e12, (kit_not ER.c13 ER.s12_13 ER.s12_12)⟩) (all_cons (⟨ER.e13, kit_same⟩) (all_cons (⟨ER.e14, (kit_not ER.c13 ER.s14_13 ER.s14_14)⟩) (all_cons (⟨ER.e15, (kit_not ER.c13 ER.s15_13 ER.s15_15)⟩) (all_cons (⟨ER.e16, (kit_not ER.c13 ER.s16_13 ER.s16_16)⟩) (all_cons (⟨ER.e17, (kit_not ER.c13 ER.s17_13 ER.s17_17)⟩) (all_cons (⟨ER.e18, (kit_not ER.c13 ER.s18_13 ER.s18_18)⟩) (all_cons (⟨ER.e19, (kit_not ER.c13 ER.s19_13 ER.s19_19)⟩) (all_nil))))))))))))) (dv 0 (pv 0))) (da_nil))))))))
    (ds_cons (ds_set (ps_set (i := 1) sc__law_kinds.nd rfl (Or.inl rfl) (d_add false (dv 1 (pv 1)) (d_lst false (da_cons (d_isE B.isinstance ER.c14.at_ (all_cons (⟨ER.e8, (kit_not ER.c14 ER.s8_14 ER.s8_8)⟩) (all_cons (⟨ER.e9, (kit_not ER.c14 ER.s9_14 ER.s9_9)⟩) (all_cons (⟨ER.e10, (kit_not ER.c14 ER.s10_14 ER.s10_10)⟩) (all_cons (⟨ER.e11, (kit_not ER.c14 ER.s11_14 ER.s11_11)⟩) (all_cons (⟨ER.e12, (kit_not ER.c14 ER.s12_14 ER.s12_12)⟩) (all_cons (⟨ER.e13, (kit_not ER.c14 ER.s13_14 ER.s13_13)⟩) (all_cons (⟨ER.e14, kit_same⟩) (all_cons (⟨ER.e15, (kit_not ER.c14 ER.s15_14 ER.s15_15)⟩) (all_cons (⟨ER.e16, (kit_not ER.c14 ER.s16_14 ER.s16_16)⟩) (all_cons (⟨ER.e17, (kit_not ER.c14 ER.s17_14 ER.s17_17)⟩) (all_cons (⟨ER.e18, (kit_not ER.c14 ER.s18_14 ER.s18_18)⟩) (all_cons (⟨ER.e19, (kit_not ER.c14 ER.s19_14 ER.s19_19)⟩) (all_nil))))))))))))) (dv 0 (pv 0))) (da_cons (d_isE B.isinstance ER.c15.at_ (all_cons (⟨ER.e8, (kit_not ER.c15 ER.s8_15 ER.s8_8)⟩) (all_cons (⟨ER.e9, (kit_not ER.c15 ER.s9_15 ER.s9_9)⟩) (all_cons (⟨ER.e10, (kit_not ER.c15 ER.s10_15 ER.s10_10)⟩) (all_cons (⟨ER.e11, (kit_not ER.c15 ER.s11_15 ER.s11_11)⟩) (all_cons (⟨ER.e12, (kit_not ER.c15 ER.s12_15 ER.s12_12)⟩) (all_cons (⟨ER.e13, (kit_not ER.c15 ER.s13_15 ER.s13_13)⟩) (all_cons (⟨ER.e14, (kit_not ER.c15 ER.s14_15 ER.s14_14)⟩) (all_cons (⟨ER.e15, kit_same⟩) (all_cons (⟨ER.e16, (kit_not ER.c15 ER.s16_15 ER.s16_16)⟩) (all_cons (⟨ER.e17, (kit_not ER.c15 ER.s17_15 ER.s17_17)⟩) (all_cons (⟨ER.e18, (kit_not ER.c15 ER.s18_15 ER.s18_18)⟩) (all_cons (⟨ER.e19, (kit_not ER.c15 ER.s19_15 ER.s19_19)⟩) (all_nil))))))))))))) (dv 0 (pv 0))) (da_cons (d_isE B.isinstance ER.c16.at_ (all_cons (⟨ER.e8, (kit_not ER.c16 ER.s8_16 ER.s8_8)⟩) (all_cons (⟨ER.e9, (kit_not ER.c16 ER.s9_16 ER.s9_9)⟩) (all_cons (⟨ER.e10, (kit_not ER.c16 ER.s10_16 ER.s10_10)⟩) (all_cons (⟨ER.e11, (kit_not ER.c16 ER.s11_16 ER.s11_11)⟩) (all_cons (⟨ER.e12, (kit_not ER.c16 ER.s12_16 ER.s12_12)⟩) (all_cons (⟨ER.e13, (kit_not ER.c16 ER.s13_16 ER.s13_13)⟩) (all_cons (⟨ER.e14, (kit_not ER.c16 ER.s14_16 ER.s14_14)⟩) (all_cons (⟨ER.e15, (kit_not ER.c16 ER.s15_16 ER.s15_15)⟩) (all_cons (⟨ER.e16, kit_same⟩) (all_cons (⟨ER.e17, (kit_not ER.c16 ER.s17_16 ER.s17_17)⟩) (all_cons (⟨ER.e18, (kit_not ER.c16 ER.s18_16 ER.s18_18)⟩) (all_cons (⟨ER.e19, (kit_not ER.c16 ER.s19_16 ER.s19_19)⟩) (all_nil))))))))))))) (dv 0 (pv 0))) (da_nil))))))))
    (ds_one (ds_ret (d_add false (dv 1 (pv 1)) (d_lst false (da_cons (d_isE B.isinstance ER.c17.at_ (all_cons (⟨ER.e8, (kit_not ER.c17 ER.s8_17 ER.s8_8)⟩) (all_cons (⟨ER.e9, (kit_not ER.c17 ER.s9_17 ER.s9_9)⟩) (all_cons (⟨ER.e10, (kit_not ER.c17 ER.s10_17 ER.s10_10)⟩) (all_cons (⟨ER.e11, (kit_not ER.c17 ER.s11_17 ER.s11_11)⟩) (all_cons (⟨ER.e12, (kit_not ER.c17 ER.s12_17 ER.s12_12)⟩) (all_cons (⟨ER.e13, (kit_not ER.c17 ER.s13_17 ER.s13_13)⟩) (all_cons (⟨ER.e14, (kit_not ER.c17 ER.s14_17 ER.s14_14)⟩) (all_cons (⟨ER.e15, (kit_not ER.c17 ER.s15_17 ER.s15_15)⟩) (all_cons (⟨ER.e16, (kit_not ER.c17 ER.s16_17 ER.s16_16)⟩) (all_cons (⟨ER.e17, kit_same⟩) (all_cons (⟨ER.e18, (kit_not ER.c17 ER.s18_17 ER.s18_18)⟩) (all_cons (⟨ER.e19, (kit_not ER.c17 ER.s19_17 ER.s19_19)⟩) (all_nil))))))))))))) (dv 0 (pv 0))) (da_cons (d_isE B.isinstance ER.c18.at_ (all_cons (⟨ER.e8, (kit_not ER.c18 ER.s8_18 ER.s8_8)⟩) (all_cons (⟨ER.e9, (kit_not ER.c18 ER.s9_18 ER.s9_9)⟩) (all_cons (⟨ER.e10, (kit_not ER.c18 ER.s10_18 ER.s10_10)⟩) (all_cons (⟨ER.e11, (kit_not ER.c18 ER.s11_18 ER.s11_11)⟩) (all_cons (⟨ER.e12, (kit_not ER.c18 ER.s12_18 ER.s12_12)⟩) (all_cons (⟨ER.e13, (kit_not ER.c18 ER.s13_18 ER.s13_13)⟩) (all_cons (⟨ER.e14, (kit_not ER.c18 ER.s14_18 ER.s14_14)⟩) (all_cons (⟨ER.e15, (kit_not ER.c18 ER.s15_18 ER.s15_15)⟩) (all_cons (⟨ER.e16, (kit_not ER.c18 ER.s16_18 ER.s16_16)⟩) (all_cons (⟨ER.e17, (kit_not ER.c18 ER.s17_18 ER.s17_17)⟩) (all_cons (⟨ER.e18, kit_same⟩) (all_cons (⟨ER.e19, (kit_not ER.c18 ER.s19_18 ER.s19_19)⟩) (all_nil))))))))))))) (dv 0 (pv 0))) (da_cons (d_isE B.isinstance ER.c19.at_ (all_cons (⟨ER.e8, (kit_not ER.c19 ER.s8_19 ER.s8_8)⟩) (all_cons (⟨ER.e9, (kit_not ER.c19 ER.s9_19 ER.s9_9)⟩) (all_cons (⟨ER.e10, (kit_not ER.c19 ER.s10_19 ER.s10_10)⟩) (all_cons (⟨ER.e11, (kit_not ER.c19 ER.s11_19 ER.s11_11)⟩) (all_cons (⟨ER.e12, (kit_not ER.c19 ER.s12_19 ER.s12_12)⟩) (all_cons (⟨ER.e13, (kit_not ER.c19 ER.s13_19 ER.s13_13)⟩) (all_cons (⟨ER.e14, (kit_not ER.c19 ER.s14_19 ER.s14_14)⟩) (all_cons (⟨ER.e15, (kit_not ER.c19 ER.s15_19 ER.s15_15)⟩) (all_cons (⟨ER.e16, (kit_not ER.c19 ER.s16_19 ER.s16_16)⟩) (all_cons (⟨ER.e17, (kit_not ER.c19 ER.s17_19 ER.s17_17)⟩) (all_cons (⟨ER.e18, (kit_not ER.c19 ER.s18_19 ER.s18_18)⟩) (all_cons (⟨ER.e19, kit_same⟩) (all_nil))))))))))))) (dv 0 (pv 0))) (da_nil))))))))))
theorem ok__law_bases (f : Addr) (fd : FuncData) (F : Fun K "_law_bases" "_law_bases" s__law_bases f fd) (hm : mg "_law_bases" = some (.ref f)) (B : Bi mg) (T : Nat → Addr)   (ER : Errs K mg T) : GD HW.P HW.w K mg base 1 "_law_bases" s__law_bases ["_law_error"] (m__law_bases T) := gd_ok false F hm sc__law_bases fun cdv A outer s H E hr =>
    ds_cons (ds_set (ps_set (i := 1) sc__law_bases.nd rfl (Or.inl rfl) (d_lst false (da_cons (d_isEB B.isinstance ER.bValueError bt_VE (all_cons (⟨ER.e8, (kit_bi km_VE ER.v8_ValueError)⟩) (all_cons (⟨ER.e9, (kit_bi km_VE ER.v9_ValueError)⟩) (all_cons (⟨ER.e10, (kit_bi km_VE ER.v10_ValueError)⟩) (all_cons (⟨ER.e11, (kit_bi km_VE ER.v11_ValueError)⟩) (all_cons (⟨ER.e12, (kit_bi km_VE ER.v12_ValueError)⟩) (all_cons (⟨ER.e13, (kit_bi km_VE ER.v13_ValueError)⟩) (all_cons (⟨ER.e14, (kit_bi km_VE ER.v14_ValueError)⟩) (all_cons (⟨ER.e15, (kit_bi km_VE ER.v15_ValueError)⟩) (all_cons (⟨ER.e16, (kit_bi km_VE ER.v16_ValueError)⟩) (all_cons (⟨ER.e17, (kit_bi km_VE ER.v17_ValueError)⟩) (all_cons (⟨ER.e18, (kit_bi km_VE ER.v18_ValueError)⟩) (all_cons (⟨ER.e19, (kit_bi km_VE ER.v19_ValueError)⟩) (all_nil))))))))))))) (dv 0 (pv 0))) (da_cons (d_isEB B.isinstance ER.bLookupError bt_LE (all_cons (⟨ER.e8, (kit_bi km_LE ER.v8_LookupError)⟩) (all_cons (⟨ER.e9, (kit_bi km_LE ER.v9_LookupError)⟩) (all_cons (⟨ER.e10, (kit_bi km_LE ER.v10_LookupError)⟩) (all_cons (⟨ER.e11, (kit_bi km_LE ER.v11_LookupError)⟩) (all_cons (⟨ER.e12, (kit_bi km_LE ER.v12_LookupError)⟩) (all_cons (⟨ER.e13, (kit_bi km_LE ER.v13_LookupError)⟩) (all_cons (⟨ER.e14, (kit_bi km_LE ER.v14_LookupError)⟩) (all_cons (⟨ER.e15, (kit_bi km_LE ER.v15_LookupError)⟩) (all_cons (⟨ER.e16, (kit_bi km_LE ER.v16_LookupError)⟩) (all_cons (⟨ER.e17, (kit_bi km_LE ER.v17_LookupError)⟩) (all_cons (⟨ER.e18, (kit_bi km_LE ER.v18_LookupError)⟩) (all_cons (⟨ER.e19, (kit_bi km_LE ER.v19_LookupError)⟩) (all_nil))))))))))))) (dv 0 (pv 0))) (da_cons (d_isEB B.isinstance ER.bRuntimeError bt_RE (all_cons (⟨ER.e8, (kit_bi km_RE ER.v8_RuntimeError)⟩) (all_cons (⟨ER.e9, (kit_bi km_RE ER.v9_RuntimeError)⟩) (all_cons (⟨ER.e10, (kit_bi km_RE ER.v10_RuntimeError)⟩) (all_cons (⟨ER.e11, (kit_bi km_RE ER.v11_RuntimeError)⟩) (all_cons (⟨ER.e12, (kit_bi km_RE ER.v12_RuntimeError)⟩) (all_cons (⟨ER.e13, (kit_bi km_RE ER.v13_RuntimeError)⟩) (all_cons (⟨ER.e14, (kit_bi km_RE ER.v14_RuntimeError)⟩) (all_cons (⟨ER.e15, (kit_bi km_RE ER.v15_RuntimeError)⟩) (all_cons (⟨ER.e16, (kit_bi km_RE ER.v16_RuntimeError)⟩) (all_cons (⟨ER.e17, (kit_bi km_RE ER.v17_RuntimeError)⟩) (all_cons (⟨ER.e18, (kit_bi km_RE ER.v18_RuntimeError)⟩) (all_cons (⟨ER.e19, (kit_bi km_RE ER.v19_RuntimeError)⟩) (all_nil))))))))))))) (dv 0 (pv 0))) (da_nil)))))))
    (ds_one (ds_ret (d_add false (dv 1 (pv 1)) (d_lst false (da_cons (d_isET B.isinstance (ClsPA.consB ER.bKeyError bt_KE (ClsPA.consB ER.bIndexError bt_IE (ClsPA.consB ER.bNotImplementedError bt_NE (ClsPA.consB ER.bOverflowError bt_OE (ClsPA.nil))))) (by simp) (all_cons (⟨ER.e8, ka_no (kit_bi km_KE ER.v8_KeyError) (ka_no (kit_bi km_IE ER.v8_IndexError) (ka_no (kit_bi km_NE ER.v8_NotImplementedError) (ka_no (kit_bi km_OE ER.v8_OverflowError) (ka_nil))))⟩) (all_cons (⟨ER.e9, ka_no (kit_bi km_KE ER.v9_KeyError) (ka_no (kit_bi km_IE ER.v9_IndexError) (ka_no (kit_bi km_NE ER.v9_NotImplementedError) (ka_no (kit_bi km_OE ER.v9_OverflowError) (ka_nil))))⟩) (all_cons (⟨ER.e10, ka_no (kit_bi km_KE ER.v10_KeyError) (ka_no (kit_bi km_IE ER.v10_IndexError) (ka_no (kit_bi km_NE ER.v10_NotImplementedError) (ka_no (kit_bi km_OE ER.v10_OverflowError) (ka_nil))))⟩) (all_cons (⟨ER.e11, ka_no (kit_bi km_KE ER.v11_KeyError) (ka_no (kit_bi km_IE ER.v11_IndexError) (ka_no (kit_bi km_NE ER.v11_NotImplementedError) (ka_no (kit_bi km_OE ER.v11_OverflowError) (ka_nil))))⟩) (all_cons (⟨ER.e12, ka_no (kit_bi km_KE ER.v12_KeyError) (ka_no (kit_bi km_IE ER.v12_IndexError) (ka_no (kit_bi km_NE ER.v12_NotImplementedError) (ka_no (kit_bi km_OE ER.v12_OverflowError) (ka_nil))))⟩) (all_cons (⟨ER.e13, ka_no (kit_bi km_KE ER.v13_KeyError) (ka_no (kit_bi km_IE ER.v13_IndexError) (ka_no (kit_bi km_NE ER.v13_NotImplementedError) (ka_no (kit_bi km_OE ER.v13_OverflowError) (ka_nil))))⟩) (all_cons (⟨ER.e14, ka_no (kit_bi km_KE ER.v14_KeyError) (ka_no (kit_bi km_IE ER.v14_IndexError) (ka_no (kit_bi km_NE ER.v14_NotImplementedError) (ka_no (kit_bi km_OE ER.v14_OverflowError) (ka_nil))))⟩) (all_cons (⟨ER.e15, ka_no (kit_bi km_KE ER.v15_KeyError) (ka_no (kit_bi km_IE ER.v15_IndexError) (ka_no (kit_bi km_NE ER.v15_NotImplementedError) (ka_no (kit_bi km_OE ER.v15_OverflowError) (ka_nil))))⟩) (all_cons (⟨ER.e16, ka_no (kit_bi km_KE ER.v16_KeyError) (ka_no (kit_bi km_IE ER.v16_IndexError) (ka_no (kit_bi km_NE ER.v16_NotImplementedError) (ka_no (kit_bi km_OE ER.v16_OverflowError) (ka_nil))))⟩) (all_cons (⟨ER.e17, ka_no (kit_bi km_KE ER.v17_KeyError) (ka_no (kit_bi km_IE ER.v17_IndexError) (ka_no (kit_bi km_NE ER.v17_NotImplementedError) (ka_no (kit_bi km_OE ER.v17_OverflowError) (ka_nil))))⟩) (all_cons (⟨ER.e18, ka_no (kit_bi km_KE ER.v18_KeyError) (ka_no (kit_bi km_IE ER.v18_IndexError) (ka_no (kit_bi km_NE ER.v18_NotImplementedError) (ka_no (kit_bi km_OE ER.v18_OverflowError) (ka_nil))))⟩) (all_cons (⟨ER.e19, ka_no (kit_bi km_KE ER.v19_KeyError) (ka_no (kit_bi km_IE ER.v19_IndexError) (ka_no (kit_bi km_NE ER.v19_NotImplementedError) (ka_no (kit_bi km_OE ER.v19_OverflowError) (ka_nil))))⟩) (all_nil))))))))))))) (dv 0 (pv 0))) (da_nil))))))
theorem ok__law_pick (f : Addr) (fd : FuncData) (F : Fun K "_law_pick" "_law_pick" s__law_pick f fd) (hm : mg "_law_pick" = some (.ref f)) (B : Bi mg)  (g__law_take : GD HW.P HW.w K mg base 1 "_law_take" s__law_take ["_law_box_here", "_law_size"] m__law_take) : GD HW.P HW.w K mg base 2 "_law_pick" s__law_pick ["_law_box_here", "_law_some"] m__law_pick := gd_ok false F hm sc__law_pick fun cdv A outer s H E hr =>
    ds_one (ds_ret (d_idx hr.room (dv 1 (pv 1)) (d_call' g__law_take (hr.mono (by omega)) (da_cons (dv 0 (pv 0)) (da_cons (d_len B.len (da_cons (dv 1 (pv 1)) (da_nil))) (da_nil))) (fun _ _ _ _ _ _ us hl => match us, hl with | [_, _], _ => rfl)) (fun _ _ => rfl)))
theorem ok__law_same (f : Addr) (fd : FuncData) (F : Fun K "_law_same" "_law_same" s__law_same f fd) (hm : mg "_law_same" = some (.ref f)) (B : Bi mg)   : ∀ n : Nat, GD HW.P HW.w K mg base (n) "_law_same" s__law_same ["_law_found", "_law_due"] (m__law_same n)
  | 0 => GD.no F hm
  | n + 1 => have ih := ok__law_same f fd F hm B  n
    gd_ok false F hm sc__law_same fun cdv A outer s H E hr =>
    ds_cons (ds_if (dt_val (d_isi2 B.isinstance B.list bt_list (.inr (.inr (.inr (.inl rfl)))) B.tuple bt_tuple (.inr (.inr (.inr (.inr (.inl rfl))))) (dv 1 (pv 1)))) (ds_cons (ds_if (PW.pt (dw_or (t_ne hr.room (d_isi B.isinstance B.list bt_list (.inr (.inr (.inr (.inl rfl)))) (dv 0 (pv 0))) (d_isi B.isinstance B.list bt_list (.inr (.inr (.inr (.inl rfl)))) (dv 1 (pv 1)))) (dw_or1 (t_ne hr.room (d_isi B.isinstance B.tuple bt_tuple (.inr (.inr (.inr (.inr (.inl rfl))))) (dv 0 (pv 0))) (d_isi B.isinstance B.tuple bt_tuple (.inr (.inr (.inr (.inr (.inl rfl))))) (dv 1 (pv 1))))))) (ds_one (ds_ret (d_bl))) (ds_nil))
    (ds_cons (ds_if (t_ne hr.room (d_len B.len (da_cons (dv 0 (pv 0)) (da_nil))) (d_len B.len (da_cons (dv 1 (pv 1)) (da_nil)))) (ds_one (ds_ret (d_bl))) (ds_nil))
    (ds_one (ds_ret (d_all rfl B.all (da_cons (d_lc false (own := [("_law_one", 2), ("_law_two", 3)]) rfl sc__law_same.nd (di_zip B.zip (da_cons (dv 0 (pv 0)) (da_cons (dv 1 (pv 1)) (da_nil)))) (blkOk_by (N := N__law_same) (sc := defScope s__law_same) (by decide +kernel)) (fun _ _ _ _ _ => dg_tup rfl (dgs_cons (dg_name 2 (pg_name (i := 2) sc__law_same.nd rfl (Or.inl rfl))) (dgs_cons (dg_name 3 (pg_name (i := 3) sc__law_same.nd rfl (Or.inl rfl))) (dgs_nil)))) (fun _ _ _ _ _ => dts_nil) (fun _ _ _ _ _ => d_call' ih hr (da_cons (dv 2 (pv 2)) (da_cons (dv 3 (pv 3)) (da_nil))) (fun _ _ _ _ _ _ us hl => match us, hl with | [_, _], _ => rfl)) (by decide)) (da_nil))))))) (ds_nil))
    (ds_cons (ds_if (PW.pt (dw_or (t_is (dv 1 (pv 1)) (d_non)) (dw_or1 (dt_val (d_isi B.isinstance B.str bt_str (.inr (.inr (.inl rfl))) (dv 1 (pv 1))))))) (ds_one (ds_ret (d_and (d_eq hr.room (dv 0 (pv 0)) (dv 1 (pv 1))) (d_one (d_eq hr.room (d_isi B.isinstance B.str bt_str (.inr (.inr (.inl rfl))) (dv 0 (pv 0))) (d_isi B.isinstance B.str bt_str (.inr (.inr (.inl rfl))) (dv 1 (pv 1)))))))) (ds_nil))
    (ds_one (ds_ret (d_and (d_isi B.isinstance B.int bt_int (.inl rfl) (dv 0 (pv 0))) (d_and (d_eq hr.room (d_isi B.isinstance B.bool bt_bool (.inr (.inl rfl)) (dv 0 (pv 0))) (d_isi B.isinstance B.bool bt_bool (.inr (.inl rfl)) (dv 1 (pv 1)))) (d_one (d_eq hr.room (dv 0 (pv 0)) (dv 1 (pv 1)))))))))
theorem ok__law_made_right (f : Addr) (fd : FuncData) (F : Fun K "_law_made_right" "_law_made_right" s__law_made_right f fd) (hm : mg "_law_made_right" = some (.ref f)) (B : Bi mg) (T : Nat → Addr)  (g__law_same : GD HW.P HW.w K mg base 12 "_law_same" s__law_same ["_law_found", "_law_due"] (m__law_same 12)) (g__law_kinds : GD HW.P HW.w K mg base 1 "_law_kinds" s__law_kinds ["_law_error"] (m__law_kinds T)) (g__law_bases : GD HW.P HW.w K mg base 1 "_law_bases" s__law_bases ["_law_error"] (m__law_bases T)) (ER : Errs K mg T) : GD HW.P HW.w K mg base 13 "_law_made_right" s__law_made_right ["_law_made", "_law_due", "_law_text", "_law_some"] (m__law_made_right T) := gd_ok false F hm sc__law_made_right fun cdv A outer s H E hr =>
    ds_cons (ds_if (dt_not (dt_val (d_call' g__law_same (hr.mono (by omega)) (da_cons (d_lst false (da_cons (d_xf (all_cons (⟨ER.e9, ER.f9⟩) (all_cons (⟨ER.e13, ER.f13⟩) (all_cons (⟨ER.e18, ER.f18⟩) (all_nil)))) (d_idxO hr.room (dv 0 (pv 0)) (d_int) (fun _ _ => rfl))) (da_cons (d_xf (all_cons (⟨ER.e10, ER.f10⟩) (all_cons (⟨ER.e12, ER.f12⟩) (all_nil))) (d_idxO hr.room (dv 0 (pv 0)) (d_int) (fun _ _ => rfl))) (da_cons (d_xf (all_cons (⟨ER.e11, ER.f11⟩) (all_nil)) (d_idxO hr.room (dv 0 (pv 0)) (d_int) (fun _ _ => rfl))) (da_cons (d_xf (all_cons (⟨ER.e10, ER.f10⟩) (all_cons (⟨ER.e12, ER.f12⟩) (all_nil))) (d_idxO hr.room (dv 0 (pv 0)) (d_int) (fun _ _ => rfl))) (da_cons (d_xf (all_cons (⟨ER.e9, ER.f9⟩) (all_cons (⟨ER.e13, ER.f13⟩) (all_cons (⟨ER.e18, ER.f18⟩) (all_nil)))) (d_idxO hr.room (dv 0 (pv 0)) (d_int) (fun _ _ => rfl))) (da_nil))))))) (da_cons (d_add false (d_add false (d_lst false (da_cons (dv 2 (pv 2)) (da_nil))) (d_slice false (dv 1 (pv 1)) (do_none) (do_some (d_int)))) (d_lst false (da_cons (dv 2 (pv 2)) (da_nil)))) (da_nil))) (fun _ _ _ _ _ _ us hl => match us, hl with | [_, _], _ => rfl)))) (ds_one (ds_ret (d_bl))) (ds_nil))
    (ds_cons (ds_set (ps_set (i := 4) sc__law_made_right.nd rfl (Or.inl rfl) (d_lst false (da_cons (d_xf (all_cons (⟨ER.e14, ER.f14⟩) (all_nil)) (d_idxO hr.room (dv 0 (pv 0)) (d_int) (fun _ _ => rfl))) (da_cons (d_xf (all_cons (⟨ER.e15, ER.f15⟩) (all_nil)) (d_idxO hr.room (dv 0 (pv 0)) (d_int) (fun _ _ => rfl))) (da_cons (d_xf (all_cons (⟨ER.e16, ER.f16⟩) (all_nil)) (d_idxO hr.room (dv 0 (pv 0)) (d_int) (fun _ _ => rfl))) (da_cons (d_xf (all_cons (⟨ER.e17, ER.f17⟩) (all_nil)) (d_idxO hr.room (dv 0 (pv 0)) (d_int) (fun _ _ => rfl))) (da_cons (d_xf (all_cons (⟨ER.e9, ER.f9⟩) (all_cons (⟨ER.e13, ER.f13⟩) (all_cons (⟨ER.e18, ER.f18⟩) (all_nil)))) (d_idxO hr.room (dv 0 (pv 0)) (d_int) (fun _ _ => rfl))) (da_nil)))))))))
    (ds_cons (ds_if (dt_not (dt_val (d_call' g__law_same (hr.mono (by omega)) (da_cons (dv 4 (pv 4)) (da_cons (d_add false (d_slice false (dv 1 (pv 1)) (do_some (d_int)) (do_some (d_int))) (d_lst false (da_cons (dv 3 (pv 3)) (da_cons (dv 2 (pv 2)) (da_nil))))) (da_nil))) (fun _ _ _ _ _ _ us hl => match us, hl with | [_, _], _ => rfl)))) (ds_one (ds_ret (d_bl))) (ds_nil))
    (ds_cons (ds_forE rfl PassesOwn.never (di_enumO B.enumerate (da_cons (dv 0 (pv 0)) (da_nil))) (dgw_tup rfl (dgw_cons (dg_name 5 (pg_name (i := 5) sc__law_made_right.nd rfl (Or.inr rfl))) (dgw_cons (dg_name 6 (pg_name (i := 6) sc__law_made_right.nd rfl (Or.inl rfl))) (dgw_nil))))
    (ds_cons (ds_set (ps_set (i := 7) sc__law_made_right.nd rfl (Or.inr rfl) (d_add false (d_intC B.int (da_cons (d_gt (dv 5 (pv 5)) (d_int)) (da_nil))) (d_intC B.int (da_cons (d_gt (dv 5 (pv 5)) (d_int)) (da_nil))))))
    (ds_one (ds_if (PW.pt (dw_or (t_ne hr.room (d_call' g__law_kinds (hr.mono (by omega)) (da_cons (dv 6 (pv 6)) (da_nil)) (fun _ _ _ _ _ _ us hl => match us, hl with | [_], _ => rfl)) (d_lc false (own := [("_law_k", 8)]) rfl sc__law_made_right.nd (di_rng1 B.range (da_cons (d_int) (da_nil))) (blkOk_by (N := N__law_made_right) (sc := defScope s__law_made_right) (by decide +kernel)) (fun _ _ _ _ _ => dg_name 8 (pg_name (i := 8) sc__law_made_right.nd rfl (Or.inl rfl))) (fun _ _ _ _ _ => dts_nil) (fun _ _ _ _ _ => d_eq hr.room (dv 8 (pv 8)) (dv 5 (pv 5))) (by decide))) (dw_or1 (t_ne hr.room (d_call' g__law_bases (hr.mono (by omega)) (da_cons (dv 6 (pv 6)) (da_nil)) (fun _ _ _ _ _ _ us hl => match us, hl with | [_], _ => rfl)) (d_lc false (own := [("_law_k", 8)]) rfl sc__law_made_right.nd (di_rng1 B.range (da_cons (d_int) (da_nil))) (blkOk_by (N := N__law_made_right) (sc := defScope s__law_made_right) (by decide +kernel)) (fun _ _ _ _ _ => dg_name 8 (pg_name (i := 8) sc__law_made_right.nd rfl (Or.inl rfl))) (fun _ _ _ _ _ => dts_nil) (fun _ _ _ _ _ => d_eq hr.room (dv 8 (pv 8)) (dv 7 (pv 7))) (by decide)))))) (ds_one (ds_ret (d_bl))) (ds_nil)))))
    (ds_one (ds_ret (d_bl))))))
theorem ok__law_right (f : Addr) (fd : FuncData) (F : Fun K "_law_right" "_law_right" s__law_right f fd) (hm : mg "_law_right" = some (.ref f)) (B : Bi mg) (T : Nat → Addr)  (g__law_pick : GD HW.P HW.w K mg base 2 "_law_pick" s__law_pick ["_law_box_here", "_law_some"] m__law_pick) (g__law_made_right : GD HW.P HW.w K mg base 13 "_law_made_right" s__law_made_right ["_law_made", "_law_due", "_law_text", "_law_some"] (m__law_made_right T)) (g__law_take : GD HW.P HW.w K mg base 1 "_law_take" s__law_take ["_law_box_here", "_law_size"] m__law_take) (ER : Errs K mg T) : GD HW.P HW.w K mg base 14 "_law_right" s__law_right ["_law_box_here"] (m__law_right T) := gd_ok false F hm sc__law_right fun cdv A outer s H E hr =>
    ds_cons (ds_setLc false (own := [("_law_k", 6)]) (i := 1) rfl sc__law_right.nd rfl rfl (sw_true rfl rfl rfl (by decide +kernel)) (di_rng1 B.range (da_cons (d_int) (da_nil))) (blkOk_by (N := N__law_right) (sc := defScope s__law_right) (by decide +kernel)) (fun _ _ _ _ _ => dg_name 6 (pg_name (i := 6) sc__law_right.nd rfl (Or.inl rfl))) (fun _ _ _ _ _ => dts_nil) (fun _ _ _ _ _ => d_sub (d_call' g__law_take (hr.mono (by omega)) (da_cons (dv 0 (pv 0)) (da_cons (d_pow (d_int) (d_int)) (da_nil))) (fun _ _ _ _ _ _ us hl => match us, hl with | [_, _], _ => rfl)) (d_int)) (by decide))
    (ds_cons (ds_par2 (ps_par (i := 4) (j := 5) rfl sc__law_right.nd rfl rfl (by decide) rfl rfl (da_cons (d_call' g__law_pick (hr.mono (by omega)) (da_cons (dv 0 (pv 0)) (da_cons (d_lst false (da_cons (d_str) (da_cons (d_str) (da_cons (d_str) (da_cons (d_str) (da_nil)))))) (da_nil))) (fun _ _ _ _ _ _ us hl => match us, hl with | [_, _], _ => rfl)) (da_cons (d_idx hr.room (d_lst false (da_cons (d_lst false (da_cons (d_str) (da_cons (d_str) (da_nil)))) (da_cons (d_lst false (da_cons (d_str) (da_cons (d_str) (da_cons (d_str) (da_nil))))) (da_nil)))) (d_call' g__law_take (hr.mono (by omega)) (da_cons (dv 0 (pv 0)) (da_cons (d_int) (da_nil))) (fun _ _ _ _ _ _ us hl => match us, hl with | [_, _], _ => rfl)) (fun _ _ => rfl)) (da_nil))) (by rfl)))
    (ds_cons (ds_set (ps_set (i := 2) sc__law_right.nd rfl (Or.inl rfl) (d_lstO (da_cons (d_newE0 PySem.F.excBase_ValueError ER.u8.ex ER.u8.at_ ER.u8.kp) (da_cons (d_newE1 ER.u9 (hr.mono (by omega)) (dv 4 (pv 4))) (da_cons (d_newE1 ER.u10 (hr.mono (by omega)) (d_idx hr.room (dv 1 (pv 1)) (d_int) (fun _ _ => rfl))) (da_cons (d_newE1 ER.u11 (hr.mono (by omega)) (d_idx hr.room (dv 1 (pv 1)) (d_int) (fun _ _ => rfl))) (da_cons (d_newE1 ER.u12 (hr.mono (by omega)) (d_idx hr.room (dv 1 (pv 1)) (d_int) (fun _ _ => rfl))) (da_cons (d_newE1 ER.u13 (hr.mono (by omega)) (dv 4 (pv 4))) (da_cons (d_newE1 ER.u14 (hr.mono (by omega)) (d_idx hr.room (dv 1 (pv 1)) (d_int) (fun _ _ => rfl))) (da_nil)))))))))))
    (ds_cons (ds_set (ps_set (i := 2) sc__law_right.nd rfl (Or.inl rfl) (d_addO (dv 2 (pv 2)) (d_lstO (da_cons (d_newE1 ER.u15 (hr.mono (by omega)) (d_idx hr.room (dv 1 (pv 1)) (d_int) (fun _ _ => rfl))) (da_cons (d_newE1 ER.u16 (hr.mono (by omega)) (d_idx hr.room (dv 1 (pv 1)) (d_int) (fun _ _ => rfl))) (da_cons (d_newE1 ER.u17 (hr.mono (by omega)) (dv 5 (pv 5))) (da_cons (d_newE1 ER.u18 (hr.mono (by omega)) (dv 4 (pv 4))) (da_cons (d_newE0 PySem.F.excBase_RuntimeError ER.u19.ex ER.u19.at_ ER.u19.kp) (da_nil))))))))))
    (ds_cons (ds_set (ps_set (i := 3) sc__law_right.nd rfl (Or.inl rfl) (d_lstO (da_cons (d_newE0 PySem.F.excBase_ValueError ER.u8.ex ER.u8.at_ ER.u8.kp) (da_cons (d_newEK ER.k9 (hr.mono (by omega)) (dk_cons (dv 4 (pv 4)) (dk_nil))) (da_cons (d_newEK ER.k10 (hr.mono (by omega)) (dk_cons (d_idx hr.room (dv 1 (pv 1)) (d_int) (fun _ _ => rfl)) (dk_nil))) (da_cons (d_newEK ER.k11 (hr.mono (by omega)) (dk_cons (d_idx hr.room (dv 1 (pv 1)) (d_int) (fun _ _ => rfl)) (dk_nil))) (da_cons (d_newEK ER.k12 (hr.mono (by omega)) (dk_cons (d_idx hr.room (dv 1 (pv 1)) (d_int) (fun _ _ => rfl)) (dk_nil))) (da_nil)))))))))
    (ds_cons (ds_set (ps_set (i := 3) sc__law_right.nd rfl (Or.inl rfl) (d_addO (dv 3 (pv 3)) (d_lstO (da_cons (d_newEK ER.k13 (hr.mono (by omega)) (dk_cons (dv 4 (pv 4)) (dk_nil))) (da_cons (d_newEK ER.k14 (hr.mono (by omega)) (dk_cons (d_idx hr.room (dv 1 (pv 1)) (d_int) (fun _ _ => rfl)) (dk_nil))) (da_cons (d_newEK ER.k15 (hr.mono (by omega)) (dk_cons (d_idx hr.room (dv 1 (pv 1)) (d_int) (fun _ _ => rfl)) (dk_nil))) (da_cons (d_newEK ER.k16 (hr.mono (by omega)) (dk_cons (d_idx hr.room (dv 1 (pv 1)) (d_int) (fun _ _ => rfl)) (dk_nil))) (da_nil)))))))))
    (ds_cons (ds_set (ps_set (i := 3) sc__law_right.nd rfl (Or.inl rfl) (d_addO (dv 3 (pv 3)) (d_lstO (da_cons (d_newEK ER.k17 (hr.mono (by omega)) (dk_cons (dv 5 (pv 5)) (dk_nil))) (da_cons (d_newEK ER.k18 (hr.mono (by omega)) (dk_cons (dv 4 (pv 4)) (dk_nil))) (da_cons (d_newE0 PySem.F.excBase_RuntimeError ER.u19.ex ER.u19.at_ ER.u19.kp) (da_nil))))))))
    (ds_one (ds_ret (d_and (d_call' g__law_made_right (hr.mono (by omega)) (da_cons (dv 2 (pv 2)) (da_cons (dv 1 (pv 1)) (da_cons (dv 4 (pv 4)) (da_cons (dv 5 (pv 5)) (da_nil))))) (fun _ _ _ _ _ _ us hl => match us, hl with | [_, _, _, _], _ => rfl)) (d_one (d_call' g__law_made_right (hr.mono (by omega)) (da_cons (dv 3 (pv 3)) (da_cons (dv 1 (pv 1)) (da_cons (dv 4 (pv 4)) (da_cons (dv 5 (pv 5)) (da_nil))))) (fun _ _ _ _ _ _ us hl => match us, hl with | [_, _, _, _], _ => rfl))))))))))))
theorem ok_law (f : Addr) (fd : FuncData) (F : Fun K "law" "law" s_law f fd) (hm : mg "law" = some (.ref f)) (B : Bi mg) (T : Nat → Addr)  (g__law_folded : GD HW.P HW.w K mg base 1 "_law_folded" s__law_folded ["_law_script", "_law_size"] m__law_folded) (g__law_right : GD HW.P HW.w K mg base 14 "_law_right" s__law_right ["_law_box_here"] (m__law_right T)) (g__law_box : GD HW.P HW.w K mg base 1 "_law_box" s__law_box ["_law_script", "_law_k"] m__law_box) : FnG HW.P HW.w K mg base CX0 15 f fd ["_law_script"] (spD (m_law T)) := fng_ok false F sc_law fun cdv A outer s H E hr =>
    ds_cons (ds_set (ps_set (i := 1) sc_law.nd rfl (Or.inr rfl) (d_call' g__law_folded (hr.mono (by omega)) (da_cons (dv 0 (pv 0)) (da_cons (d_int) (da_nil))) (fun _ _ _ _ _ _ us hl => match us, hl with | [_, _], _ => rfl))))
    (ds_one (ds_ret (d_all rfl B.all (da_cons (d_lc false (own := [("_law_k", 2)]) rfl sc_law.nd (di_rng1 B.range (da_cons (d_len B.len (da_cons (dv 1 (pv 1)) (da_nil))) (da_nil))) (blkOk_by (N := N_law) (sc := defScope s_law) (by decide +kernel)) (fun _ _ _ _ _ => dg_name 2 (pg_name (i := 2) sc_law.nd rfl (Or.inl rfl))) (fun _ _ _ _ _ => dts_nil) (fun _ _ _ _ _ => d_call' g__law_right (hr.mono (by omega)) (da_cons (d_call' g__law_box (hr.mono (by omega)) (da_cons (dv 1 (pv 1)) (da_cons (dv 2 (pv 2)) (da_nil))) (fun _ _ _ _ _ _ us hl => match us, hl with | [_, _], _ => rfl)) (da_nil)) (fun _ _ _ _ _ _ us hl => match us, hl with | [_], _ => rfl)) (by decide)) (da_nil)))))
end
theorem all_mk {l : PySem.W.OpenLaw} {w : World} {K : PySem.W.Frag} {h : Heap} {mg : Str → Option Value} {fa f0 f1 f2 f3 f4 f5 f6 f7 f8 f9 : Addr} {CE8 CE9 CE10 CE11 CE12 CE13 CE14 CE15 CE16 CE17 CE18 CE19 : Addr} (X : K.In h) (G : h.Ns mainGlobals mg) (hfa : mg "law" = some (.ref fa))
    {fe10 : Addr} {ode10 ane10 : Option Addr} {sle10 : Array (Option Value)} {oce10 kVe10 dce10 pme10 cde10 cte10 : Value} {fe11 : Addr} {ode11 ane11 : Option Addr} {sle11 : Array (Option Value)} {oce11 kVe11 dce11 pme11 cde11 cte11 : Value} {fe12 : Addr} {ode12 ane12 : Option Addr} {sle12 : Array (Option Value)} {oce12 kVe12 dce12 pme12 cde12 cte12 : Value} {fe13 : Addr} {ode13 ane13 : Option Addr} {sle13 : Array (Option Value)} {oce13 kVe13 dce13 pme13 cde13 cte13 : Value} {fe14 : Addr} {ode14 ane14 : Option Addr} {sle14 : Array (Option Value)} {oce14 kVe14 dce14 pme14 cde14 cte14 : Value} {fe15 : Addr} {ode15 ane15 : Option Addr} {sle15 : Array (Option Value)} {oce15 kVe15 dce15 pme15 cde15 cte15 : Value} {fe16 : Addr} {ode16 ane16 : Option Addr} {sle16 : Array (Option Value)} {oce16 kVe16 dce16 pme16 cde16 cte16 : Value} {fe17 : Addr} {ode17 ane17 : Option Addr} {sle17 : Array (Option Value)} {oce17 kVe17 dce17 pme17 cde17 cte17 : Value} {fe18 : Addr} {ode18 ane18 : Option Addr} {sle18 : Array (Option Value)} {oce18 kVe18 dce18 pme18 cde18 cte18 : Value} {fe9 : Addr} {ode9 ane9 : Option Addr} {sle9 : Array (Option Value)} {oce9 kVe9 dce9 pme9 cde9 cte9 : Value}
    {od0 od1 od2 od3 od4 od5 od6 od7 od8 od9 an0 an1 an2 an3 an4 an5 an6 an7 an8 an9 : Option Addr} {sl0 sl1 sl2 sl3 sl4 sl5 sl6 sl7 sl8 sl9 : Array (Option Value)} {oc0 oc1 oc2 oc3 oc4 oc5 oc6 oc7 oc8 oc9 kV0 kV1 kV2 kV3 kV4 kV5 kV6 kV7 kV8 kV9 dc0 dc1 dc2 dc3 dc4 dc5 dc6 dc7 dc8 dc9 pm0 pm1 pm2 pm3 pm4 pm5 pm6 pm7 pm8 pm9 cd0 cd1 cd2 cd3 cd4 cd5 cd6 cd7 cd8 cd9 ct0 ct1 ct2 ct3 ct4 ct5 ct6 ct7 ct8 ct9 : Value}
    (a0 : PySem.W.nsIn K mainGlobals "_law_box" = some (some (.ref f0))) (l0 : K.lookup f0 = some ⟨oc0, od0, .func (PySem.W.fnOf "_law_box" "_law_box" (defArgs s__law_box) (defBody s__law_box) (defScope s__law_box) .none kV0 dc0 pm0 an0 cd0 ct0), sl0⟩) (c0 : PySem.W.codeIn K cd0 "_law_box" = true) (k0 : PySem.W.keepIn K (.ref f0) = true)
    (a1 : PySem.W.nsIn K mainGlobals "_law_take" = some (some (.ref f1))) (l1 : K.lookup f1 = some ⟨oc1, od1, .func (PySem.W.fnOf "_law_take" "_law_take" (defArgs s__law_take) (defBody s__law_take) (defScope s__law_take) .none kV1 dc1 pm1 an1 cd1 ct1), sl1⟩) (c1 : PySem.W.codeIn K cd1 "_law_take" = true) (k1 : PySem.W.keepIn K (.ref f1) = true)
    (a2 : PySem.W.nsIn K mainGlobals "_law_pick" = some (some (.ref f2))) (l2 : K.lookup f2 = some ⟨oc2, od2, .func (PySem.W.fnOf "_law_pick" "_law_pick" (defArgs s__law_pick) (defBody s__law_pick) (defScope s__law_pick) .none kV2 dc2 pm2 an2 cd2 ct2), sl2⟩) (c2 : PySem.W.codeIn K cd2 "_law_pick" = true) (k2 : PySem.W.keepIn K (.ref f2) = true)
    (a3 : PySem.W.nsIn K mainGlobals "_law_same" = some (some (.ref f3))) (l3 : K.lookup f3 = some ⟨oc3, od3, .func (PySem.W.fnOf "_law_same" "_law_same" (defArgs s__law_same) (defBody s__law_same) (defScope s__law_same) .none kV3 dc3 pm3 an3 cd3 ct3), sl3⟩) (c3 : PySem.W.codeIn K cd3 "_law_same" = true) (k3 : PySem.W.keepIn K (.ref f3) = true)
    (a4 : PySem.W.nsIn K mainGlobals "_law_folded" = some (some (.ref f4))) (l4 : K.lookup f4 = some ⟨oc4, od4, .func (PySem.W.fnOf "_law_folded" "_law_folded" (defArgs s__law_folded) (defBody s__law_folded) (defScope s__law_folded) .none kV4 dc4 pm4 an4 cd4 ct4), sl4⟩) (c4 : PySem.W.codeIn K cd4 "_law_folded" = true) (k4 : PySem.W.keepIn K (.ref f4) = true)
    (a5 : PySem.W.nsIn K mainGlobals "_law_kinds" = some (some (.ref f5))) (l5 : K.lookup f5 = some ⟨oc5, od5, .func (PySem.W.fnOf "_law_kinds" "_law_kinds" (defArgs s__law_kinds) (defBody s__law_kinds) (defScope s__law_kinds) .none kV5 dc5 pm5 an5 cd5 ct5), sl5⟩) (c5 : PySem.W.codeIn K cd5 "_law_kinds" = true) (k5 : PySem.W.keepIn K (.ref f5) = true)
    (a6 : PySem.W.nsIn K mainGlobals "_law_bases" = some (some (.ref f6))) (l6 : K.lookup f6 = some ⟨oc6, od6, .func (PySem.W.fnOf "_law_bases" "_law_bases" (defArgs s__law_bases) (defBody s__law_bases) (defScope s__law_bases) .none kV6 dc6 pm6 an6 cd6 ct6), sl6⟩) (c6 : PySem.W.codeIn K cd6 "_law_bases" = true) (k6 : PySem.W.keepIn K (.ref f6) = true)
    (a7 : PySem.W.nsIn K mainGlobals "_law_made_right" = some (some (.ref f7))) (l7 : K.lookup f7 = some ⟨oc7, od7, .func (PySem.W.fnOf "_law_made_right" "_law_made_right" (defArgs s__law_made_right) (defBody s__law_made_right) (defScope s__law_made_right) .none kV7 dc7 pm7 an7 cd7 ct7), sl7⟩) (c7 : PySem.W.codeIn K cd7 "_law_made_right" = true) (k7 : PySem.W.keepIn K (.ref f7) = true)
    (a8 : PySem.W.nsIn K mainGlobals "_law_right" = some (some (.ref f8))) (l8 : K.lookup f8 = some ⟨oc8, od8, .func (PySem.W.fnOf "_law_right" "_law_right" (defArgs s__law_right) (defBody s__law_right) (defScope s__law_right) .none kV8 dc8 pm8 an8 cd8 ct8), sl8⟩) (c8 : PySem.W.codeIn K cd8 "_law_right" = true) (k8 : PySem.W.keepIn K (.ref f8) = true)
    (a9 : PySem.W.nsIn K mainGlobals "law" = some (some (.ref f9))) (l9 : K.lookup f9 = some ⟨oc9, od9, .func (PySem.W.fnOf "law" "law" (defArgs s_law) (defBody s_law) (defScope s_law) .none kV9 dc9 pm9 an9 cd9 ct9), sl9⟩) (c9 : PySem.W.codeIn K cd9 "law" = true) (k9 : PySem.W.keepIn K (.ref f9) = true)
    (xa8 : PySem.W.nsIn K mainGlobals "Unlike" = some (some (.ref CE8)))
    (xk8 : PySem.W.keepIn K (.ref CE8) = true)
    (xb8 : PySem.W.subIn K (.ref CE8) (.type "BaseException") = some true)
    (xt8 : PySem.W.typeIn K (.ref CE8) = some (.type "type"))
    (xh8 : PySem.W.hasDictIn K CE8 = true)
    (xx8 : PySem.W.excIn K CE8 [.type "ValueError", .type "Exception", .type "BaseException", .type "object"] "ValueError.__new__" = true)
    (xg8 : PySem.W.findIn K (.ref CE8) "__getattribute__" = some (some (.builtin "BaseException.__getattribute__")))
    (xG8 : PySem.W.findIn K (.ref CE8) "__getattr__" = some none)
    (xc8 : PySem.W.findIn K (.ref CE8) "__class__" = some (some (.builtin "object.__class__")))
    (xm8 : PySem.W.mroIn K CE8 (.type "object") = some true)
    (xa9 : PySem.W.nsIn K mainGlobals "Alike" = some (some (.ref CE9)))
    (xk9 : PySem.W.keepIn K (.ref CE9) = true)
    (xb9 : PySem.W.subIn K (.ref CE9) (.type "BaseException") = some true)
    (xt9 : PySem.W.typeIn K (.ref CE9) = some (.type "type"))
    (xh9 : PySem.W.hasDictIn K CE9 = true)
    (xx9 : PySem.W.excInitIn K CE9 [.type "ValueError", .type "Exception", .type "BaseException", .type "object"] "ValueError.__new__" = true)
    (xo9 : PySem.W.excOver K CE9 [.type "ValueError", .type "Exception", .type "BaseException", .type "object"] = true)
    (xS9 : PySem.W.findIn K (.ref CE9) "__setattr__" = some (some (.builtin "object.__setattr__")))
    (xi9 : PySem.W.findIn K (.ref CE9) "__init__" = some (some (.ref fe9)))
    (xj9 : PySem.W.typeIn K (.ref fe9) = some (.type "function"))
    (xl9 : K.lookup fe9 = some ⟨oce9, ode9, .func (PySem.W.fnOf "__init__" "Alike.__init__" (defArgs s_Alike___init__) (defBody s_Alike___init__) (defScope s_Alike___init__) .none kVe9 dce9 pme9 ane9 cde9 cte9), sle9⟩)
    (xq9 : PySem.W.codeIn K cde9 "Alike.__init__" = true)
    (xK9 : PySem.W.keepIn K (.ref fe9) = true)
    (xF9 : PySem.W.findCls K (.type "ValueError") (.type "type") "__init__" = some (.val (.builtin "ValueError.__init__")))
    (xg9 : PySem.W.findIn K (.ref CE9) "__getattribute__" = some (some (.builtin "BaseException.__getattribute__")))
    (xG9 : PySem.W.findIn K (.ref CE9) "__getattr__" = some none)
    (xc9 : PySem.W.findIn K (.ref CE9) "__class__" = some (some (.builtin "object.__class__")))
    (xm9 : PySem.W.mroIn K CE9 (.type "object") = some true)
    (xa10 : PySem.W.nsIn K mainGlobals "BadText" = some (some (.ref CE10)))
    (xk10 : PySem.W.keepIn K (.ref CE10) = true)
    (xb10 : PySem.W.subIn K (.ref CE10) (.type "BaseException") = some true)
    (xt10 : PySem.W.typeIn K (.ref CE10) = some (.type "type"))
    (xh10 : PySem.W.hasDictIn K CE10 = true)
    (xx10 : PySem.W.excInitIn K CE10 [.type "ValueError", .type "Exception", .type "BaseException", .type "object"] "ValueError.__new__" = true)
    (xo10 : PySem.W.excOver K CE10 [.type "ValueError", .type "Exception", .type "BaseException", .type "object"] = true)
    (xS10 : PySem.W.findIn K (.ref CE10) "__setattr__" = some (some (.builtin "object.__setattr__")))
    (xi10 : PySem.W.findIn K (.ref CE10) "__init__" = some (some (.ref fe10)))
    (xj10 : PySem.W.typeIn K (.ref fe10) = some (.type "function"))
    (xl10 : K.lookup fe10 = some ⟨oce10, ode10, .func (PySem.W.fnOf "__init__" "BadText.__init__" (defArgs s_BadText___init__) (defBody s_BadText___init__) (defScope s_BadText___init__) .none kVe10 dce10 pme10 ane10 cde10 cte10), sle10⟩)
    (xq10 : PySem.W.codeIn K cde10 "BadText.__init__" = true)
    (xK10 : PySem.W.keepIn K (.ref fe10) = true)
    (xF10 : PySem.W.findCls K (.type "ValueError") (.type "type") "__init__" = some (.val (.builtin "ValueError.__init__")))
    (xg10 : PySem.W.findIn K (.ref CE10) "__getattribute__" = some (some (.builtin "BaseException.__getattribute__")))
    (xG10 : PySem.W.findIn K (.ref CE10) "__getattr__" = some none)
    (xc10 : PySem.W.findIn K (.ref CE10) "__class__" = some (some (.builtin "object.__class__")))
    (xm10 : PySem.W.mroIn K CE10 (.type "object") = some true)
    (xa11 : PySem.W.nsIn K mainGlobals "BadRow" = some (some (.ref CE11)))
    (xk11 : PySem.W.keepIn K (.ref CE11) = true)
    (xb11 : PySem.W.subIn K (.ref CE11) (.type "BaseException") = some true)
    (xt11 : PySem.W.typeIn K (.ref CE11) = some (.type "type"))
    (xh11 : PySem.W.hasDictIn K CE11 = true)
    (xx11 : PySem.W.excInitIn K CE11 [.type "ValueError", .type "Exception", .type "BaseException", .type "object"] "ValueError.__new__" = true)
    (xo11 : PySem.W.excOver K CE11 [.type "ValueError", .type "Exception", .type "BaseException", .type "object"] = true)
    (xS11 : PySem.W.findIn K (.ref CE11) "__setattr__" = some (some (.builtin "object.__setattr__")))
    (xi11 : PySem.W.findIn K (.ref CE11) "__init__" = some (some (.ref fe11)))
    (xj11 : PySem.W.typeIn K (.ref fe11) = some (.type "function"))
    (xl11 : K.lookup fe11 = some ⟨oce11, ode11, .func (PySem.W.fnOf "__init__" "BadRow.__init__" (defArgs s_BadRow___init__) (defBody s_BadRow___init__) (defScope s_BadRow___init__) .none kVe11 dce11 pme11 ane11 cde11 cte11), sle11⟩)
    (xq11 : PySem.W.codeIn K cde11 "BadRow.__init__" = true)
    (xK11 : PySem.W.keepIn K (.ref fe11) = true)
    (xF11 : PySem.W.findCls K (.type "ValueError") (.type "type") "__init__" = some (.val (.builtin "ValueError.__init__")))
    (xg11 : PySem.W.findIn K (.ref CE11) "__getattribute__" = some (some (.builtin "BaseException.__getattribute__")))
    (xG11 : PySem.W.findIn K (.ref CE11) "__getattr__" = some none)
    (xc11 : PySem.W.findIn K (.ref CE11) "__class__" = some (some (.builtin "object.__class__")))
    (xm11 : PySem.W.mroIn K CE11 (.type "object") = some true)
    (xa12 : PySem.W.nsIn K mainGlobals "BadDeed" = some (some (.ref CE12)))
    (xk12 : PySem.W.keepIn K (.ref CE12) = true)
    (xb12 : PySem.W.subIn K (.ref CE12) (.type "BaseException") = some true)
    (xt12 : PySem.W.typeIn K (.ref CE12) = some (.type "type"))
    (xh12 : PySem.W.hasDictIn K CE12 = true)
    (xx12 : PySem.W.excInitIn K CE12 [.type "ValueError", .type "Exception", .type "BaseException", .type "object"] "ValueError.__new__" = true)
    (xo12 : PySem.W.excOver K CE12 [.type "ValueError", .type "Exception", .type "BaseException", .type "object"] = true)
    (xS12 : PySem.W.findIn K (.ref CE12) "__setattr__" = some (some (.builtin "object.__setattr__")))
    (xi12 : PySem.W.findIn K (.ref CE12) "__init__" = some (some (.ref fe12)))
    (xj12 : PySem.W.typeIn K (.ref fe12) = some (.type "function"))
    (xl12 : K.lookup fe12 = some ⟨oce12, ode12, .func (PySem.W.fnOf "__init__" "BadDeed.__init__" (defArgs s_BadDeed___init__) (defBody s_BadDeed___init__) (defScope s_BadDeed___init__) .none kVe12 dce12 pme12 ane12 cde12 cte12), sle12⟩)
    (xq12 : PySem.W.codeIn K cde12 "BadDeed.__init__" = true)
    (xK12 : PySem.W.keepIn K (.ref fe12) = true)
    (xF12 : PySem.W.findCls K (.type "ValueError") (.type "type") "__init__" = some (.val (.builtin "ValueError.__init__")))
    (xg12 : PySem.W.findIn K (.ref CE12) "__getattribute__" = some (some (.builtin "BaseException.__getattribute__")))
    (xG12 : PySem.W.findIn K (.ref CE12) "__getattr__" = some none)
    (xc12 : PySem.W.findIn K (.ref CE12) "__class__" = some (some (.builtin "object.__class__")))
    (xm12 : PySem.W.mroIn K CE12 (.type "object") = some true)
    (xa13 : PySem.W.nsIn K mainGlobals "NoName" = some (some (.ref CE13)))
    (xk13 : PySem.W.keepIn K (.ref CE13) = true)
    (xb13 : PySem.W.subIn K (.ref CE13) (.type "BaseException") = some true)
    (xt13 : PySem.W.typeIn K (.ref CE13) = some (.type "type"))
    (xh13 : PySem.W.hasDictIn K CE13 = true)
    (xx13 : PySem.W.excInitIn K CE13 [.type "LookupError", .type "Exception", .type "BaseException", .type "object"] "LookupError.__new__" = true)
    (xo13 : PySem.W.excOver K CE13 [.type "LookupError", .type "Exception", .type "BaseException", .type "object"] = true)
    (xS13 : PySem.W.findIn K (.ref CE13) "__setattr__" = some (some (.builtin "object.__setattr__")))
    (xi13 : PySem.W.findIn K (.ref CE13) "__init__" = some (some (.ref fe13)))
    (xj13 : PySem.W.typeIn K (.ref fe13) = some (.type "function"))
    (xl13 : K.lookup fe13 = some ⟨oce13, ode13, .func (PySem.W.fnOf "__init__" "NoName.__init__" (defArgs s_NoName___init__) (defBody s_NoName___init__) (defScope s_NoName___init__) .none kVe13 dce13 pme13 ane13 cde13 cte13), sle13⟩)
    (xq13 : PySem.W.codeIn K cde13 "NoName.__init__" = true)
    (xK13 : PySem.W.keepIn K (.ref fe13) = true)
    (xF13 : PySem.W.findCls K (.type "LookupError") (.type "type") "__init__" = some (.val (.builtin "LookupError.__init__")))
    (xg13 : PySem.W.findIn K (.ref CE13) "__getattribute__" = some (some (.builtin "BaseException.__getattribute__")))
    (xG13 : PySem.W.findIn K (.ref CE13) "__getattr__" = some none)
    (xc13 : PySem.W.findIn K (.ref CE13) "__class__" = some (some (.builtin "object.__class__")))
    (xm13 : PySem.W.mroIn K CE13 (.type "object") = some true)
    (xa14 : PySem.W.nsIn K mainGlobals "NoPlace" = some (some (.ref CE14)))
    (xk14 : PySem.W.keepIn K (.ref CE14) = true)
    (xb14 : PySem.W.subIn K (.ref CE14) (.type "BaseException") = some true)
    (xt14 : PySem.W.typeIn K (.ref CE14) = some (.type "type"))
    (xh14 : PySem.W.hasDictIn K CE14 = true)
    (xx14 : PySem.W.excInitIn K CE14 [.type "LookupError", .type "Exception", .type "BaseException", .type "object"] "LookupError.__new__" = true)
    (xo14 : PySem.W.excOver K CE14 [.type "LookupError", .type "Exception", .type "BaseException", .type "object"] = true)
    (xS14 : PySem.W.findIn K (.ref CE14) "__setattr__" = some (some (.builtin "object.__setattr__")))
    (xi14 : PySem.W.findIn K (.ref CE14) "__init__" = some (some (.ref fe14)))
    (xj14 : PySem.W.typeIn K (.ref fe14) = some (.type "function"))
    (xl14 : K.lookup fe14 = some ⟨oce14, ode14, .func (PySem.W.fnOf "__init__" "NoPlace.__init__" (defArgs s_NoPlace___init__) (defBody s_NoPlace___init__) (defScope s_NoPlace___init__) .none kVe14 dce14 pme14 ane14 cde14 cte14), sle14⟩)
    (xq14 : PySem.W.codeIn K cde14 "NoPlace.__init__" = true)
    (xK14 : PySem.W.keepIn K (.ref fe14) = true)
    (xF14 : PySem.W.findCls K (.type "LookupError") (.type "type") "__init__" = some (.val (.builtin "LookupError.__init__")))
    (xg14 : PySem.W.findIn K (.ref CE14) "__getattribute__" = some (some (.builtin "BaseException.__getattribute__")))
    (xG14 : PySem.W.findIn K (.ref CE14) "__getattr__" = some none)
    (xc14 : PySem.W.findIn K (.ref CE14) "__class__" = some (some (.builtin "object.__class__")))
    (xm14 : PySem.W.mroIn K CE14 (.type "object") = some true)
    (xa15 : PySem.W.nsIn K mainGlobals "NoNumber" = some (some (.ref CE15)))
    (xk15 : PySem.W.keepIn K (.ref CE15) = true)
    (xb15 : PySem.W.subIn K (.ref CE15) (.type "BaseException") = some true)
    (xt15 : PySem.W.typeIn K (.ref CE15) = some (.type "type"))
    (xh15 : PySem.W.hasDictIn K CE15 = true)
    (xx15 : PySem.W.excInitIn K CE15 [.type "LookupError", .type "Exception", .type "BaseException", .type "object"] "LookupError.__new__" = true)
    (xo15 : PySem.W.excOver K CE15 [.type "LookupError", .type "Exception", .type "BaseException", .type "object"] = true)
    (xS15 : PySem.W.findIn K (.ref CE15) "__setattr__" = some (some (.builtin "object.__setattr__")))
    (xi15 : PySem.W.findIn K (.ref CE15) "__init__" = some (some (.ref fe15)))
    (xj15 : PySem.W.typeIn K (.ref fe15) = some (.type "function"))
    (xl15 : K.lookup fe15 = some ⟨oce15, ode15, .func (PySem.W.fnOf "__init__" "NoNumber.__init__" (defArgs s_NoNumber___init__) (defBody s_NoNumber___init__) (defScope s_NoNumber___init__) .none kVe15 dce15 pme15 ane15 cde15 cte15), sle15⟩)
    (xq15 : PySem.W.codeIn K cde15 "NoNumber.__init__" = true)
    (xK15 : PySem.W.keepIn K (.ref fe15) = true)
    (xF15 : PySem.W.findCls K (.type "LookupError") (.type "type") "__init__" = some (.val (.builtin "LookupError.__init__")))
    (xg15 : PySem.W.findIn K (.ref CE15) "__getattribute__" = some (some (.builtin "BaseException.__getattribute__")))
    (xG15 : PySem.W.findIn K (.ref CE15) "__getattr__" = some none)
    (xc15 : PySem.W.findIn K (.ref CE15) "__class__" = some (some (.builtin "object.__class__")))
    (xm15 : PySem.W.mroIn K CE15 (.type "object") = some true)
    (xa16 : PySem.W.nsIn K mainGlobals "NoDeed" = some (some (.ref CE16)))
    (xk16 : PySem.W.keepIn K (.ref CE16) = true)
    (xb16 : PySem.W.subIn K (.ref CE16) (.type "BaseException") = some true)
    (xt16 : PySem.W.typeIn K (.ref CE16) = some (.type "type"))
    (xh16 : PySem.W.hasDictIn K CE16 = true)
    (xx16 : PySem.W.excInitIn K CE16 [.type "LookupError", .type "Exception", .type "BaseException", .type "object"] "LookupError.__new__" = true)
    (xo16 : PySem.W.excOver K CE16 [.type "LookupError", .type "Exception", .type "BaseException", .type "object"] = true)
    (xS16 : PySem.W.findIn K (.ref CE16) "__setattr__" = some (some (.builtin "object.__setattr__")))
    (xi16 : PySem.W.findIn K (.ref CE16) "__init__" = some (some (.ref fe16)))
    (xj16 : PySem.W.typeIn K (.ref fe16) = some (.type "function"))
    (xl16 : K.lookup fe16 = some ⟨oce16, ode16, .func (PySem.W.fnOf "__init__" "NoDeed.__init__" (defArgs s_NoDeed___init__) (defBody s_NoDeed___init__) (defScope s_NoDeed___init__) .none kVe16 dce16 pme16 ane16 cde16 cte16), sle16⟩)
    (xq16 : PySem.W.codeIn K cde16 "NoDeed.__init__" = true)
    (xK16 : PySem.W.keepIn K (.ref fe16) = true)
    (xF16 : PySem.W.findCls K (.type "LookupError") (.type "type") "__init__" = some (.val (.builtin "LookupError.__init__")))
    (xg16 : PySem.W.findIn K (.ref CE16) "__getattribute__" = some (some (.builtin "BaseException.__getattribute__")))
    (xG16 : PySem.W.findIn K (.ref CE16) "__getattr__" = some none)
    (xc16 : PySem.W.findIn K (.ref CE16) "__class__" = some (some (.builtin "object.__class__")))
    (xm16 : PySem.W.mroIn K CE16 (.type "object") = some true)
    (xa17 : PySem.W.nsIn K mainGlobals "Never" = some (some (.ref CE17)))
    (xk17 : PySem.W.keepIn K (.ref CE17) = true)
    (xb17 : PySem.W.subIn K (.ref CE17) (.type "BaseException") = some true)
    (xt17 : PySem.W.typeIn K (.ref CE17) = some (.type "type"))
    (xh17 : PySem.W.hasDictIn K CE17 = true)
    (xx17 : PySem.W.excInitIn K CE17 [.type "RuntimeError", .type "Exception", .type "BaseException", .type "object"] "RuntimeError.__new__" = true)
    (xo17 : PySem.W.excOver K CE17 [.type "RuntimeError", .type "Exception", .type "BaseException", .type "object"] = true)
    (xS17 : PySem.W.findIn K (.ref CE17) "__setattr__" = some (some (.builtin "object.__setattr__")))
    (xi17 : PySem.W.findIn K (.ref CE17) "__init__" = some (some (.ref fe17)))
    (xj17 : PySem.W.typeIn K (.ref fe17) = some (.type "function"))
    (xl17 : K.lookup fe17 = some ⟨oce17, ode17, .func (PySem.W.fnOf "__init__" "Never.__init__" (defArgs s_Never___init__) (defBody s_Never___init__) (defScope s_Never___init__) .none kVe17 dce17 pme17 ane17 cde17 cte17), sle17⟩)
    (xq17 : PySem.W.codeIn K cde17 "Never.__init__" = true)
    (xK17 : PySem.W.keepIn K (.ref fe17) = true)
    (xF17 : PySem.W.findCls K (.type "RuntimeError") (.type "type") "__init__" = some (.val (.builtin "RuntimeError.__init__")))
    (xg17 : PySem.W.findIn K (.ref CE17) "__getattribute__" = some (some (.builtin "BaseException.__getattribute__")))
    (xG17 : PySem.W.findIn K (.ref CE17) "__getattr__" = some none)
    (xc17 : PySem.W.findIn K (.ref CE17) "__class__" = some (some (.builtin "object.__class__")))
    (xm17 : PySem.W.mroIn K CE17 (.type "object") = some true)
    (xa18 : PySem.W.nsIn K mainGlobals "Known" = some (some (.ref CE18)))
    (xk18 : PySem.W.keepIn K (.ref CE18) = true)
    (xb18 : PySem.W.subIn K (.ref CE18) (.type "BaseException") = some true)
    (xt18 : PySem.W.typeIn K (.ref CE18) = some (.type "type"))
    (xh18 : PySem.W.hasDictIn K CE18 = true)
    (xx18 : PySem.W.excInitIn K CE18 [.type "RuntimeError", .type "Exception", .type "BaseException", .type "object"] "RuntimeError.__new__" = true)
    (xo18 : PySem.W.excOver K CE18 [.type "RuntimeError", .type "Exception", .type "BaseException", .type "object"] = true)
    (xS18 : PySem.W.findIn K (.ref CE18) "__setattr__" = some (some (.builtin "object.__setattr__")))
    (xi18 : PySem.W.findIn K (.ref CE18) "__init__" = some (some (.ref fe18)))
    (xj18 : PySem.W.typeIn K (.ref fe18) = some (.type "function"))
    (xl18 : K.lookup fe18 = some ⟨oce18, ode18, .func (PySem.W.fnOf "__init__" "Known.__init__" (defArgs s_Known___init__) (defBody s_Known___init__) (defScope s_Known___init__) .none kVe18 dce18 pme18 ane18 cde18 cte18), sle18⟩)
    (xq18 : PySem.W.codeIn K cde18 "Known.__init__" = true)
    (xK18 : PySem.W.keepIn K (.ref fe18) = true)
    (xF18 : PySem.W.findCls K (.type "RuntimeError") (.type "type") "__init__" = some (.val (.builtin "RuntimeError.__init__")))
    (xg18 : PySem.W.findIn K (.ref CE18) "__getattribute__" = some (some (.builtin "BaseException.__getattribute__")))
    (xG18 : PySem.W.findIn K (.ref CE18) "__getattr__" = some none)
    (xc18 : PySem.W.findIn K (.ref CE18) "__class__" = some (some (.builtin "object.__class__")))
    (xm18 : PySem.W.mroIn K CE18 (.type "object") = some true)
    (xa19 : PySem.W.nsIn K mainGlobals "Last" = some (some (.ref CE19)))
    (xk19 : PySem.W.keepIn K (.ref CE19) = true)
    (xb19 : PySem.W.subIn K (.ref CE19) (.type "BaseException") = some true)
    (xt19 : PySem.W.typeIn K (.ref CE19) = some (.type "type"))
    (xh19 : PySem.W.hasDictIn K CE19 = true)
    (xx19 : PySem.W.excIn K CE19 [.type "RuntimeError", .type "Exception", .type "BaseException", .type "object"] "RuntimeError.__new__" = true)
    (xg19 : PySem.W.findIn K (.ref CE19) "__getattribute__" = some (some (.builtin "BaseException.__getattribute__")))
    (xG19 : PySem.W.findIn K (.ref CE19) "__getattr__" = some none)
    (xc19 : PySem.W.findIn K (.ref CE19) "__class__" = some (some (.builtin "object.__class__")))
    (xm19 : PySem.W.mroIn K CE19 (.type "object") = some true)
    (xnIndexError : PySem.W.nsIn K mainGlobals "IndexError" = some none)
    (xnKeyError : PySem.W.nsIn K mainGlobals "KeyError" = some none)
    (xnLookupError : PySem.W.nsIn K mainGlobals "LookupError" = some none)
    (xnNotImplementedError : PySem.W.nsIn K mainGlobals "NotImplementedError" = some none)
    (xnOverflowError : PySem.W.nsIn K mainGlobals "OverflowError" = some none)
    (xnRuntimeError : PySem.W.nsIn K mainGlobals "RuntimeError" = some none)
    (xnValueError : PySem.W.nsIn K mainGlobals "ValueError" = some none)
    (xf10 : PySem.W.findIn K (.ref CE10) "at" = some none)
    (xf11 : PySem.W.findIn K (.ref CE11) "row" = some none)
    (xf12 : PySem.W.findIn K (.ref CE12) "at" = some none)
    (xf13 : PySem.W.findIn K (.ref CE13) "name" = some none)
    (xf14 : PySem.W.findIn K (.ref CE14) "place" = some none)
    (xf15 : PySem.W.findIn K (.ref CE15) "number" = some none)
    (xf16 : PySem.W.findIn K (.ref CE16) "many" = some none)
    (xf17 : PySem.W.findIn K (.ref CE17) "ring" = some none)
    (xf18 : PySem.W.findIn K (.ref CE18) "name" = some none)
    (xf9 : PySem.W.findIn K (.ref CE9) "name" = some none)
    (xs10_10 : PySem.W.subIn K (.ref CE10) (.ref CE10) = some true)
    (xs10_11 : PySem.W.subIn K (.ref CE10) (.ref CE11) = some false)
    (xs10_12 : PySem.W.subIn K (.ref CE10) (.ref CE12) = some false)
    (xs10_13 : PySem.W.subIn K (.ref CE10) (.ref CE13) = some false)
    (xs10_14 : PySem.W.subIn K (.ref CE10) (.ref CE14) = some false)
    (xs10_15 : PySem.W.subIn K (.ref CE10) (.ref CE15) = some false)
    (xs10_16 : PySem.W.subIn K (.ref CE10) (.ref CE16) = some false)
    (xs10_17 : PySem.W.subIn K (.ref CE10) (.ref CE17) = some false)
    (xs10_18 : PySem.W.subIn K (.ref CE10) (.ref CE18) = some false)
    (xs10_19 : PySem.W.subIn K (.ref CE10) (.ref CE19) = some false)
    (xs10_8 : PySem.W.subIn K (.ref CE10) (.ref CE8) = some false)
    (xs10_9 : PySem.W.subIn K (.ref CE10) (.ref CE9) = some false)
    (xs11_10 : PySem.W.subIn K (.ref CE11) (.ref CE10) = some false)
    (xs11_11 : PySem.W.subIn K (.ref CE11) (.ref CE11) = some true)
    (xs11_12 : PySem.W.subIn K (.ref CE11) (.ref CE12) = some false)
    (xs11_13 : PySem.W.subIn K (.ref CE11) (.ref CE13) = some false)
    (xs11_14 : PySem.W.subIn K (.ref CE11) (.ref CE14) = some false)
    (xs11_15 : PySem.W.subIn K (.ref CE11) (.ref CE15) = some false)
    (xs11_16 : PySem.W.subIn K (.ref CE11) (.ref CE16) = some false)
    (xs11_17 : PySem.W.subIn K (.ref CE11) (.ref CE17) = some false)
    (xs11_18 : PySem.W.subIn K (.ref CE11) (.ref CE18) = some false)
    (xs11_19 : PySem.W.subIn K (.ref CE11) (.ref CE19) = some false)
    (xs11_8 : PySem.W.subIn K (.ref CE11) (.ref CE8) = some false)
    (xs11_9 : PySem.W.subIn K (.ref CE11) (.ref CE9) = some false)
    (xs12_10 : PySem.W.subIn K (.ref CE12) (.ref CE10) = some false)
    (xs12_11 : PySem.W.subIn K (.ref CE12) (.ref CE11) = some false)
    (xs12_12 : PySem.W.subIn K (.ref CE12) (.ref CE12) = some true)
    (xs12_13 : PySem.W.subIn K (.ref CE12) (.ref CE13) = some false)
    (xs12_14 : PySem.W.subIn K (.ref CE12) (.ref CE14) = some false)
    (xs12_15 : PySem.W.subIn K (.ref CE12) (.ref CE15) = some false)
    (xs12_16 : PySem.W.subIn K (.ref CE12) (.ref CE16) = some false)
    (xs12_17 : PySem.W.subIn K (.ref CE12) (.ref CE17) = some false)
    (xs12_18 : PySem.W.subIn K (.ref CE12) (.ref CE18) = some false)
    (xs12_19 : PySem.W.subIn K (.ref CE12) (.ref CE19) = some false)
    (xs12_8 : PySem.W.subIn K (.ref CE12) (.ref CE8) = some false)
    (xs12_9 : PySem.W.subIn K (.ref CE12) (.ref CE9) = some false)
    (xs13_10 : PySem.W.subIn K (.ref CE13) (.ref CE10) = some false)
    (xs13_11 : PySem.W.subIn K (.ref CE13) (.ref CE11) = some false)
    (xs13_12 : PySem.W.subIn K (.ref CE13) (.ref CE12) = some false)
    (xs13_13 : PySem.W.subIn K (.ref CE13) (.ref CE13) = some true)
    (xs13_14 : PySem.W.subIn K (.ref CE13) (.ref CE14) = some false)
    (xs13_15 : PySem.W.subIn K (.ref CE13) (.ref CE15) = some false)
    (xs13_16 : PySem.W.subIn K (.ref CE13) (.ref CE16) = some false)
    (xs13_17 : PySem.W.subIn K (.ref CE13) (.ref CE17) = some false)
    (xs13_18 : PySem.W.subIn K (.ref CE13) (.ref CE18) = some false)
    (xs13_19 : PySem.W.subIn K (.ref CE13) (.ref CE19) = some false)
    (xs13_8 : PySem.W.subIn K (.ref CE13) (.ref CE8) = some false)
    (xs13_9 : PySem.W.subIn K (.ref CE13) (.ref CE9) = some false)
    (xs14_10 : PySem.W.subIn K (.ref CE14) (.ref CE10) = some false)
    (xs14_11 : PySem.W.subIn K (.ref CE14) (.ref CE11) = some false)
    (xs14_12 : PySem.W.subIn K (.ref CE14) (.ref CE12) = some false)
    (xs14_13 : PySem.W.subIn K (.ref CE14) (.ref CE13) = some false)
    (xs14_14 : PySem.W.subIn K (.ref CE14) (.ref CE14) = some true)
    (xs14_15 : PySem.W.subIn K (.ref CE14) (.ref CE15) = some false)
    (xs14_16 : PySem.W.subIn K (.ref CE14) (.ref CE16) = some false)
    (xs14_17 : PySem.W.subIn K (.ref CE14) (.ref CE17) = some false)
    (xs14_18 : PySem.W.subIn K (.ref CE14) (.ref CE18) = some false)
    (xs14_19 : PySem.W.subIn K (.ref CE14) (.ref CE19) = some false)
    (xs14_8 : PySem.W.subIn K (.ref CE14) (.ref CE8) = some false)
    (xs14_9 : PySem.W.subIn K (.ref CE14) (.ref CE9) = some false)
    (xs15_10 : PySem.W.subIn K (.ref CE15) (.ref CE10) = some false)
    (xs15_11 : PySem.W.subIn K (.ref CE15) (.ref CE11) = some false)
    (xs15_12 : PySem.W.subIn K (.ref CE15) (.ref CE12) = some false)
    (xs15_13 : PySem.W.subIn K (.ref CE15) (.ref CE13) = some false)
    (xs15_14 : PySem.W.subIn K (.ref CE15) (.ref CE14) = some false)
    (xs15_15 : PySem.W.subIn K (.ref CE15) (.ref CE15) = some true)
    (xs15_16 : PySem.W.subIn K (.ref CE15) (.ref CE16) = some false)
    (xs15_17 : PySem.W.subIn K (.ref CE15) (.ref CE17) = some false)
    (xs15_18 : PySem.W.subIn K (.ref CE15) (.ref CE18) = some false)
    (xs15_19 : PySem.W.subIn K (.ref CE15) (.ref CE19) = some false)
    (xs15_8 : PySem.W.subIn K (.ref CE15) (.ref CE8) = some false)
    (xs15_9 : PySem.W.subIn K (.ref CE15) (.ref CE9) = some false)
    (xs16_10 : PySem.W.subIn K (.ref CE16) (.ref CE10) = some false)
    (xs16_11 : PySem.W.subIn K (.ref CE16) (.ref CE11) = some false)
    (xs16_12 : PySem.W.subIn K (.ref CE16) (.ref CE12) = some false)
    (xs16_13 : PySem.W.subIn K (.ref CE16) (.ref CE13) = some false)
    (xs16_14 : PySem.W.subIn K (.ref CE16) (.ref CE14) = some false)
    (xs16_15 : PySem.W.subIn K (.ref CE16) (.ref CE15) = some false)
    (xs16_16 : PySem.W.subIn K (.ref CE16) (.ref CE16) = some true)
    (xs16_17 : PySem.W.subIn K (.ref CE16) (.ref CE17) = some false)
    (xs16_18 : PySem.W.subIn K (.ref CE16) (.ref CE18) = some false)
    (xs16_19 : PySem.W.subIn K (.ref CE16) (.ref CE19) = some false)
    (xs16_8 : PySem.W.subIn K (.ref CE16) (.ref CE8) = some false)
    (xs16_9 : PySem.W.subIn K (.ref CE16) (.ref CE9) = some false)
    (xs17_10 : PySem.W.subIn K (.ref CE17) (.ref CE10) = some false)
    (xs17_11 : PySem.W.subIn K (.ref CE17) (.ref CE11) = some false)
    (xs17_12 : PySem.W.subIn K (.ref CE17) (.ref CE12) = some false)
    (xs17_13 : PySem.W.subIn K (.ref CE17) (.ref CE13) = some false)
    (xs17_14 : PySem.W.subIn K (.ref CE17) (.ref CE14) = some false)
    (xs17_15 : PySem.W.subIn K (.ref CE17) (.ref CE15) = some false)
    (xs17_16 : PySem.W.subIn K (.ref CE17) (.ref CE16) = some false)
    (xs17_17 : PySem.W.subIn K (.ref CE17) (.ref CE17) = some true)
    (xs17_18 : PySem.W.subIn K (.ref CE17) (.ref CE18) = some false)
    (xs17_19 : PySem.W.subIn K (.ref CE17) (.ref CE19) = some false)
    (xs17_8 : PySem.W.subIn K (.ref CE17) (.ref CE8) = some false)
    (xs17_9 : PySem.W.subIn K (.ref CE17) (.ref CE9) = some false)
    (xs18_10 : PySem.W.subIn K (.ref CE18) (.ref CE10) = some false)
    (xs18_11 : PySem.W.subIn K (.ref CE18) (.ref CE11) = some false)
    (xs18_12 : PySem.W.subIn K (.ref CE18) (.ref CE12) = some false)
    (xs18_13 : PySem.W.subIn K (.ref CE18) (.ref CE13) = some false)
    (xs18_14 : PySem.W.subIn K (.ref CE18) (.ref CE14) = some false)
    (xs18_15 : PySem.W.subIn K (.ref CE18) (.ref CE15) = some false)
    (xs18_16 : PySem.W.subIn K (.ref CE18) (.ref CE16) = some false)
    (xs18_17 : PySem.W.subIn K (.ref CE18) (.ref CE17) = some false)
    (xs18_18 : PySem.W.subIn K (.ref CE18) (.ref CE18) = some true)
    (xs18_19 : PySem.W.subIn K (.ref CE18) (.ref CE19) = some false)
    (xs18_8 : PySem.W.subIn K (.ref CE18) (.ref CE8) = some false)
    (xs18_9 : PySem.W.subIn K (.ref CE18) (.ref CE9) = some false)
    (xs19_10 : PySem.W.subIn K (.ref CE19) (.ref CE10) = some false)
    (xs19_11 : PySem.W.subIn K (.ref CE19) (.ref CE11) = some false)
    (xs19_12 : PySem.W.subIn K (.ref CE19) (.ref CE12) = some false)
    (xs19_13 : PySem.W.subIn K (.ref CE19) (.ref CE13) = some false)
    (xs19_14 : PySem.W.subIn K (.ref CE19) (.ref CE14) = some false)
    (xs19_15 : PySem.W.subIn K (.ref CE19) (.ref CE15) = some false)
    (xs19_16 : PySem.W.subIn K (.ref CE19) (.ref CE16) = some false)
    (xs19_17 : PySem.W.subIn K (.ref CE19) (.ref CE17) = some false)
    (xs19_18 : PySem.W.subIn K (.ref CE19) (.ref CE18) = some false)
    (xs19_19 : PySem.W.subIn K (.ref CE19) (.ref CE19) = some true)
    (xs19_8 : PySem.W.subIn K (.ref CE19) (.ref CE8) = some false)
    (xs19_9 : PySem.W.subIn K (.ref CE19) (.ref CE9) = some false)
    (xs8_10 : PySem.W.subIn K (.ref CE8) (.ref CE10) = some false)
    (xs8_11 : PySem.W.subIn K (.ref CE8) (.ref CE11) = some false)
    (xs8_12 : PySem.W.subIn K (.ref CE8) (.ref CE12) = some false)
    (xs8_13 : PySem.W.subIn K (.ref CE8) (.ref CE13) = some false)
    (xs8_14 : PySem.W.subIn K (.ref CE8) (.ref CE14) = some false)
    (xs8_15 : PySem.W.subIn K (.ref CE8) (.ref CE15) = some false)
    (xs8_16 : PySem.W.subIn K (.ref CE8) (.ref CE16) = some false)
    (xs8_17 : PySem.W.subIn K (.ref CE8) (.ref CE17) = some false)
    (xs8_18 : PySem.W.subIn K (.ref CE8) (.ref CE18) = some false)
    (xs8_19 : PySem.W.subIn K (.ref CE8) (.ref CE19) = some false)
    (xs8_8 : PySem.W.subIn K (.ref CE8) (.ref CE8) = some true)
    (xs8_9 : PySem.W.subIn K (.ref CE8) (.ref CE9) = some false)
    (xs9_10 : PySem.W.subIn K (.ref CE9) (.ref CE10) = some false)
    (xs9_11 : PySem.W.subIn K (.ref CE9) (.ref CE11) = some false)
    (xs9_12 : PySem.W.subIn K (.ref CE9) (.ref CE12) = some false)
    (xs9_13 : PySem.W.subIn K (.ref CE9) (.ref CE13) = some false)
    (xs9_14 : PySem.W.subIn K (.ref CE9) (.ref CE14) = some false)
    (xs9_15 : PySem.W.subIn K (.ref CE9) (.ref CE15) = some false)
    (xs9_16 : PySem.W.subIn K (.ref CE9) (.ref CE16) = some false)
    (xs9_17 : PySem.W.subIn K (.ref CE9) (.ref CE17) = some false)
    (xs9_18 : PySem.W.subIn K (.ref CE9) (.ref CE18) = some false)
    (xs9_19 : PySem.W.subIn K (.ref CE9) (.ref CE19) = some false)
    (xs9_8 : PySem.W.subIn K (.ref CE9) (.ref CE8) = some false)
    (xs9_9 : PySem.W.subIn K (.ref CE9) (.ref CE9) = some true)
    (xv10_IndexError : PySem.W.subIn K (.ref CE10) (.type "IndexError") = some false)
    (xv10_KeyError : PySem.W.subIn K (.ref CE10) (.type "KeyError") = some false)
    (xv10_LookupError : PySem.W.subIn K (.ref CE10) (.type "LookupError") = some false)
    (xv10_NotImplementedError : PySem.W.subIn K (.ref CE10) (.type "NotImplementedError") = some false)
    (xv10_OverflowError : PySem.W.subIn K (.ref CE10) (.type "OverflowError") = some false)
    (xv10_RuntimeError : PySem.W.subIn K (.ref CE10) (.type "RuntimeError") = some false)
    (xv10_ValueError : PySem.W.subIn K (.ref CE10) (.type "ValueError") = some true)
    (xv11_IndexError : PySem.W.subIn K (.ref CE11) (.type "IndexError") = some false)
    (xv11_KeyError : PySem.W.subIn K (.ref CE11) (.type "KeyError") = some false)
    (xv11_LookupError : PySem.W.subIn K (.ref CE11) (.type "LookupError") = some false)
    (xv11_NotImplementedError : PySem.W.subIn K (.ref CE11) (.type "NotImplementedError") = some false)
    (xv11_OverflowError : PySem.W.subIn K (.ref CE11) (.type "OverflowError") = some false)
    (xv11_RuntimeError : PySem.W.subIn K (.ref CE11) (.type "RuntimeError") = some false)
    (xv11_ValueError : PySem.W.subIn K (.ref CE11) (.type "ValueError") = some true)
    (xv12_IndexError : PySem.W.subIn K (.ref CE12) (.type "IndexError") = some false)
    (xv12_KeyError : PySem.W.subIn K (.ref CE12) (.type "KeyError") = some false)
    (xv12_LookupError : PySem.W.subIn K (.ref CE12) (.type "LookupError") = some false)
    (xv12_NotImplementedError : PySem.W.subIn K (.ref CE12) (.type "NotImplementedError") = some false)
    (xv12_OverflowError : PySem.W.subIn K (.ref CE12) (.type "OverflowError") = some false)
    (xv12_RuntimeError : PySem.W.subIn K (.ref CE12) (.type "RuntimeError") = some false)
    (xv12_ValueError : PySem.W.subIn K (.ref CE12) (.type "ValueError") = some true)
    (xv13_IndexError : PySem.W.subIn K (.ref CE13) (.type "IndexError") = some false)
    (xv13_KeyError : PySem.W.subIn K (.ref CE13) (.type "KeyError") = some false)
    (xv13_LookupError : PySem.W.subIn K (.ref CE13) (.type "LookupError") = some true)
    (xv13_NotImplementedError : PySem.W.subIn K (.ref CE13) (.type "NotImplementedError") = some false)
    (xv13_OverflowError : PySem.W.subIn K (.ref CE13) (.type "OverflowError") = some false)
    (xv13_RuntimeError : PySem.W.subIn K (.ref CE13) (.type "RuntimeError") = some false)
    (xv13_ValueError : PySem.W.subIn K (.ref CE13) (.type "ValueError") = some false)
    (xv14_IndexError : PySem.W.subIn K (.ref CE14) (.type "IndexError") = some false)
    (xv14_KeyError : PySem.W.subIn K (.ref CE14) (.type "KeyError") = some false)
    (xv14_LookupError : PySem.W.subIn K (.ref CE14) (.type "LookupError") = some true)
    (xv14_NotImplementedError : PySem.W.subIn K (.ref CE14) (.type "NotImplementedError") = some false)
    (xv14_OverflowError : PySem.W.subIn K (.ref CE14) (.type "OverflowError") = some false)
    (xv14_RuntimeError : PySem.W.subIn K (.ref CE14) (.type "RuntimeError") = some false)
    (xv14_ValueError : PySem.W.subIn K (.ref CE14) (.type "ValueError") = some false)
    (xv15_IndexError : PySem.W.subIn K (.ref CE15) (.type "IndexError") = some false)
    (xv15_KeyError : PySem.W.subIn K (.ref CE15) (.type "KeyError") = some false)
    (xv15_LookupError : PySem.W.subIn K (.ref CE15) (.type "LookupError") = some true)
    (xv15_NotImplementedError : PySem.W.subIn K (.ref CE15) (.type "NotImplementedError") = some false)
    (xv15_OverflowError : PySem.W.subIn K (.ref CE15) (.type "OverflowError") = some false)
    (xv15_RuntimeError : PySem.W.subIn K (.ref CE15) (.type "RuntimeError") = some false)
    (xv15_ValueError : PySem.W.subIn K (.ref CE15) (.type "ValueError") = some false)
    (xv16_IndexError : PySem.W.subIn K (.ref CE16) (.type "IndexError") = some false)
    (xv16_KeyError : PySem.W.subIn K (.ref CE16) (.type "KeyError") = some false)
    (xv16_LookupError : PySem.W.subIn K (.ref CE16) (.type "LookupError") = some true)
    (xv16_NotImplementedError : PySem.W.subIn K (.ref CE16) (.type "NotImplementedError") = some false)
    (xv16_OverflowError : PySem.W.subIn K (.ref CE16) (.type "OverflowError") = some false)
    (xv16_RuntimeError : PySem.W.subIn K (.ref CE16) (.type "RuntimeError") = some false)
    (xv16_ValueError : PySem.W.subIn K (.ref CE16) (.type "ValueError") = some false)
    (xv17_IndexError : PySem.W.subIn K (.ref CE17) (.type "IndexError") = some false)
    (xv17_KeyError : PySem.W.subIn K (.ref CE17) (.type "KeyError") = some false)
    (xv17_LookupError : PySem.W.subIn K (.ref CE17) (.type "LookupError") = some false)
    (xv17_NotImplementedError : PySem.W.subIn K (.ref CE17) (.type "NotImplementedError") = some false)
    (xv17_OverflowError : PySem.W.subIn K (.ref CE17) (.type "OverflowError") = some false)
    (xv17_RuntimeError : PySem.W.subIn K (.ref CE17) (.type "RuntimeError") = some true)
    (xv17_ValueError : PySem.W.subIn K (.ref CE17) (.type "ValueError") = some false)
    (xv18_IndexError : PySem.W.subIn K (.ref CE18) (.type "IndexError") = some false)
    (xv18_KeyError : PySem.W.subIn K (.ref CE18) (.type "KeyError") = some false)
    (xv18_LookupError : PySem.W.subIn K (.ref CE18) (.type "LookupError") = some false)
    (xv18_NotImplementedError : PySem.W.subIn K (.ref CE18) (.type "NotImplementedError") = some false)
    (xv18_OverflowError : PySem.W.subIn K (.ref CE18) (.type "OverflowError") = some false)
    (xv18_RuntimeError : PySem.W.subIn K (.ref CE18) (.type "RuntimeError") = some true)
    (xv18_ValueError : PySem.W.subIn K (.ref CE18) (.type "ValueError") = some false)
    (xv19_IndexError : PySem.W.subIn K (.ref CE19) (.type "IndexError") = some false)
    (xv19_KeyError : PySem.W.subIn K (.ref CE19) (.type "KeyError") = some false)
    (xv19_LookupError : PySem.W.subIn K (.ref CE19) (.type "LookupError") = some false)
    (xv19_NotImplementedError : PySem.W.subIn K (.ref CE19) (.type "NotImplementedError") = some false)
    (xv19_OverflowError : PySem.W.subIn K (.ref CE19) (.type "OverflowError") = some false)
    (xv19_RuntimeError : PySem.W.subIn K (.ref CE19) (.type "RuntimeError") = some true)
    (xv19_ValueError : PySem.W.subIn K (.ref CE19) (.type "ValueError") = some false)
    (xv8_IndexError : PySem.W.subIn K (.ref CE8) (.type "IndexError") = some false)
    (xv8_KeyError : PySem.W.subIn K (.ref CE8) (.type "KeyError") = some false)
    (xv8_LookupError : PySem.W.subIn K (.ref CE8) (.type "LookupError") = some false)
    (xv8_NotImplementedError : PySem.W.subIn K (.ref CE8) (.type "NotImplementedError") = some false)
    (xv8_OverflowError : PySem.W.subIn K (.ref CE8) (.type "OverflowError") = some false)
    (xv8_RuntimeError : PySem.W.subIn K (.ref CE8) (.type "RuntimeError") = some false)
    (xv8_ValueError : PySem.W.subIn K (.ref CE8) (.type "ValueError") = some true)
    (xv9_IndexError : PySem.W.subIn K (.ref CE9) (.type "IndexError") = some false)
    (xv9_KeyError : PySem.W.subIn K (.ref CE9) (.type "KeyError") = some false)
    (xv9_LookupError : PySem.W.subIn K (.ref CE9) (.type "LookupError") = some false)
    (xv9_NotImplementedError : PySem.W.subIn K (.ref CE9) (.type "NotImplementedError") = some false)
    (xv9_OverflowError : PySem.W.subIn K (.ref CE9) (.type "OverflowError") = some false)
    (xv9_RuntimeError : PySem.W.subIn K (.ref CE9) (.type "RuntimeError") = some false)
    (xv9_ValueError : PySem.W.subIn K (.ref CE9) (.type "ValueError") = some true)
    (xhn : PySem.W.specialIn K (.builtin "object.__class__") "__get__" = some (some (.builtin "getset_descriptor.__get__")))
    (xtk : PySem.W.takesIn K (.builtin "object.__class__") = some true)
    (z_len : PySem.W.nsIn K mainGlobals "len" = some none)
    (z_abs : PySem.W.nsIn K mainGlobals "abs" = some none)
    (z_int : PySem.W.nsIn K mainGlobals "int" = some none)
    (z_max : PySem.W.nsIn K mainGlobals "max" = some none)
    (z_min : PySem.W.nsIn K mainGlobals "min" = some none)
    (z_all : PySem.W.nsIn K mainGlobals "all" = some none)
    (z_any : PySem.W.nsIn K mainGlobals "any" = some none)
    (z_sum : PySem.W.nsIn K mainGlobals "sum" = some none)
    (z_tuple : PySem.W.nsIn K mainGlobals "tuple" = some none)
    (z_list : PySem.W.nsIn K mainGlobals "list" = some none)
    (z_dict : PySem.W.nsIn K mainGlobals "dict" = some none)
    (z_sorted : PySem.W.nsIn K mainGlobals "sorted" = some none)
    (z_isinstance : PySem.W.nsIn K mainGlobals "isinstance" = some none)
    (z_str : PySem.W.nsIn K mainGlobals "str" = some none)
    (z_bool : PySem.W.nsIn K mainGlobals "bool" = some none)
    (z_range : PySem.W.nsIn K mainGlobals "range" = some none)
    (z_enumerate : PySem.W.nsIn K mainGlobals "enumerate" = some none)
    (z_zip : PySem.W.nsIn K mainGlobals "zip" = some none)
    (z_reversed : PySem.W.nsIn K mainGlobals "reversed" = some none)
    (z_repr : PySem.W.nsIn K mainGlobals "repr" = some none)
    (z_set : PySem.W.nsIn K mainGlobals "set" = some none)
    : ∃ (fd : FuncData) (os : List (Option (Str × Addr × Addr))) (m : FM), (∀ (s : Shared) (v : Value), BindsTo s fd ⟨[v], []⟩ [("_law_script", v)]) ∧ (∀ t ∈ os.filterMap id, (∃ y ∈ [], PySem.W.tabIn K y = some (t.2.1, t.2.2)) ∧ K.lookup t.2.2 = none) ∧ ((os.filterMap id).map (·.2.2)).Nodup ∧ (∀ base : Heap, K.In base → base.Ns mainGlobals mg → (∀ t ∈ os.filterMap id, LamX.TabB base mg t.2.1 t.2.2) → FnG l.prog w K mg base CX0 15 fa fd ["_law_script"] (@spD (HW.mk l.prog w) m)) ∧ ∀ ns : List Int, ns.length ≤ 63 → ∃ h', m [.scr ns] (tabsO os) = some (.dat (.bool true), h') := by
  letI : HW := HW.mk l.prog w
  obtain ⟨T, rfl, rfl, rfl, rfl, rfl, rfl, rfl, rfl, rfl, rfl, rfl, rfl⟩ : ∃ T : Nat → Addr, T 8 = CE8 ∧ T 9 = CE9 ∧ T 10 = CE10 ∧ T 11 = CE11 ∧ T 12 = CE12 ∧ T 13 = CE13 ∧ T 14 = CE14 ∧ T 15 = CE15 ∧ T 16 = CE16 ∧ T 17 = CE17 ∧ T 18 = CE18 ∧ T 19 = CE19 := ⟨fun i => if i = 8 then CE8 else if i = 9 then CE9 else if i = 10 then CE10 else if i = 11 then CE11 else if i = 12 then CE12 else if i = 13 then CE13 else if i = 14 then CE14 else if i = 15 then CE15 else if i = 16 then CE16 else if i = 17 then CE17 else if i = 18 then CE18 else if i = 19 then CE19 else ([] : List Addr).getD i 0, rfl, rfl, rfl, rfl, rfl, rfl, rfl, rfl, rfl, rfl, rfl, rfl⟩
  have ER : Errs K mg T := ⟨PySem.W.mg_none_of X G xnIndexError, PySem.W.mg_none_of X G xnKeyError, PySem.W.mg_none_of X G xnLookupError, PySem.W.mg_none_of X G xnNotImplementedError, PySem.W.mg_none_of X G xnOverflowError, PySem.W.mg_none_of X G xnRuntimeError, PySem.W.mg_none_of X G xnValueError, ⟨PySem.W.mg_of X G xa10, xb10, xh10, xt10⟩, ⟨PySem.W.mg_of X G xa11, xb11, xh11, xt11⟩, ⟨PySem.W.mg_of X G xa12, xb12, xh12, xt12⟩, ⟨PySem.W.mg_of X G xa13, xb13, xh13, xt13⟩, ⟨PySem.W.mg_of X G xa14, xb14, xh14, xt14⟩, ⟨PySem.W.mg_of X G xa15, xb15, xh15, xt15⟩, ⟨PySem.W.mg_of X G xa16, xb16, xh16, xt16⟩, ⟨PySem.W.mg_of X G xa17, xb17, xh17, xt17⟩, ⟨PySem.W.mg_of X G xa18, xb18, xh18, xt18⟩, ⟨PySem.W.mg_of X G xa19, xb19, xh19, xt19⟩, ⟨PySem.W.mg_of X G xa8, xb8, xh8, xt8⟩, ⟨PySem.W.mg_of X G xa9, xb9, xh9, xt9⟩, ⟨xg10, xG10, xb10, xh10, xc10, xhn, xtk, xm10⟩, ⟨xg11, xG11, xb11, xh11, xc11, xhn, xtk, xm11⟩, ⟨xg12, xG12, xb12, xh12, xc12, xhn, xtk, xm12⟩, ⟨xg13, xG13, xb13, xh13, xc13, xhn, xtk, xm13⟩, ⟨xg14, xG14, xb14, xh14, xc14, xhn, xtk, xm14⟩, ⟨xg15, xG15, xb15, xh15, xc15, xhn, xtk, xm15⟩, ⟨xg16, xG16, xb16, xh16, xc16, xhn, xtk, xm16⟩, ⟨xg17, xG17, xb17, xh17, xc17, xhn, xtk, xm17⟩, ⟨xg18, xG18, xb18, xh18, xc18, xhn, xtk, xm18⟩, ⟨xg19, xG19, xb19, xh19, xc19, xhn, xtk, xm19⟩, ⟨xg8, xG8, xb8, xh8, xc8, xhn, xtk, xm8⟩, ⟨xg9, xG9, xb9, xh9, xc9, xhn, xtk, xm9⟩, xf10, xf11, xf12, xf13, xf14, xf15, xf16, xf17, xf18, xf9, ⟨PySem.W.mg_of X G xa10, _, _, _, _, _, _, base_VE.F, ⟨xx10, xo10, xh10, xS10, xb10, xt10, xk10⟩, xi10, xj10, bindsK_of (fun_mk (st := s_BadText___init__) xl10 xq10 xK10) (fun _ _ _ _ _ _ _ _ => rfl), fun _ _ _ => ui_ok (fun_mk (st := s_BadText___init__) xl10 xq10 xK10) sc_BadText___init__ fun cdv A outer s H E => ui_body base_VE ⟨xx10, xo10, xh10, xS10, xb10, xt10, xk10⟩ (PySem.W.mg_none_of X G xnValueError) xF10 xf10 (pv 0) (pv 1) (pv 0) (pv 1)⟩, ⟨PySem.W.mg_of X G xa11, _, _, _, _, _, _, base_VE.F, ⟨xx11, xo11, xh11, xS11, xb11, xt11, xk11⟩, xi11, xj11, bindsK_of (fun_mk (st := s_BadRow___init__) xl11 xq11 xK11) (fun _ _ _ _ _ _ _ _ => rfl), fun _ _ _ => ui_ok (fun_mk (st := s_BadRow___init__) xl11 xq11 xK11) sc_BadRow___init__ fun cdv A outer s H E => ui_body base_VE ⟨xx11, xo11, xh11, xS11, xb11, xt11, xk11⟩ (PySem.W.mg_none_of X G xnValueError) xF11 xf11 (pv 0) (pv 1) (pv 0) (pv 1)⟩, ⟨PySem.W.mg_of X G xa12, _, _, _, _, _, _, base_VE.F, ⟨xx12, xo12, xh12, xS12, xb12, xt12, xk12⟩, xi12, xj12, bindsK_of (fun_mk (st := s_BadDeed___init__) xl12 xq12 xK12) (fun _ _ _ _ _ _ _ _ => rfl), fun _ _ _ => ui_ok (fun_mk (st := s_BadDeed___init__) xl12 xq12 xK12) sc_BadDeed___init__ fun cdv A outer s H E => ui_body base_VE ⟨xx12, xo12, xh12, xS12, xb12, xt12, xk12⟩ (PySem.W.mg_none_of X G xnValueError) xF12 xf12 (pv 0) (pv 1) (pv 0) (pv 1)⟩, ⟨PySem.W.mg_of X G xa13, _, _, _, _, _, _, base_LE.F, ⟨xx13, xo13, xh13, xS13, xb13, xt13, xk13⟩, xi13, xj13, bindsK_of (fun_mk (st := s_NoName___init__) xl13 xq13 xK13) (fun _ _ _ _ _ _ _ _ => rfl), fun _ _ _ => ui_ok (fun_mk (st := s_NoName___init__) xl13 xq13 xK13) sc_NoName___init__ fun cdv A outer s H E => ui_body base_LE ⟨xx13, xo13, xh13, xS13, xb13, xt13, xk13⟩ (PySem.W.mg_none_of X G xnLookupError) xF13 xf13 (pv 0) (pv 1) (pv 0) (pv 1)⟩, ⟨PySem.W.mg_of X G xa14, _, _, _, _, _, _, base_LE.F, ⟨xx14, xo14, xh14, xS14, xb14, xt14, xk14⟩, xi14, xj14, bindsK_of (fun_mk (st := s_NoPlace___init__) xl14 xq14 xK14) (fun _ _ _ _ _ _ _ _ => rfl), fun _ _ _ => ui_ok (fun_mk (st := s_NoPlace___init__) xl14 xq14 xK14) sc_NoPlace___init__ fun cdv A outer s H E => ui_body base_LE ⟨xx14, xo14, xh14, xS14, xb14, xt14, xk14⟩ (PySem.W.mg_none_of X G xnLookupError) xF14 xf14 (pv 0) (pv 1) (pv 0) (pv 1)⟩, ⟨PySem.W.mg_of X G xa15, _, _, _, _, _, _, base_LE.F, ⟨xx15, xo15, xh15, xS15, xb15, xt15, xk15⟩, xi15, xj15, bindsK_of (fun_mk (st := s_NoNumber___init__) xl15 xq15 xK15) (fun _ _ _ _ _ _ _ _ => rfl), fun _ _ _ => ui_ok (fun_mk (st := s_NoNumber___init__) xl15 xq15 xK15) sc_NoNumber___init__ fun cdv A outer s H E => ui_body base_LE ⟨xx15, xo15, xh15, xS15, xb15, xt15, xk15⟩ (PySem.W.mg_none_of X G xnLookupError) xF15 xf15 (pv 0) (pv 1) (pv 0) (pv 1)⟩, ⟨PySem.W.mg_of X G xa16, _, _, _, _, _, _, base_LE.F, ⟨xx16, xo16, xh16, xS16, xb16, xt16, xk16⟩, xi16, xj16, bindsK_of (fun_mk (st := s_NoDeed___init__) xl16 xq16 xK16) (fun _ _ _ _ _ _ _ _ => rfl), fun _ _ _ => ui_ok (fun_mk (st := s_NoDeed___init__) xl16 xq16 xK16) sc_NoDeed___init__ fun cdv A outer s H E => ui_body base_LE ⟨xx16, xo16, xh16, xS16, xb16, xt16, xk16⟩ (PySem.W.mg_none_of X G xnLookupError) xF16 xf16 (pv 0) (pv 1) (pv 0) (pv 1)⟩, ⟨PySem.W.mg_of X G xa17, _, _, _, _, _, _, base_RE.F, ⟨xx17, xo17, xh17, xS17, xb17, xt17, xk17⟩, xi17, xj17, bindsK_of (fun_mk (st := s_Never___init__) xl17 xq17 xK17) (fun _ _ _ _ _ _ _ _ => rfl), fun _ _ _ => ui_ok (fun_mk (st := s_Never___init__) xl17 xq17 xK17) sc_Never___init__ fun cdv A outer s H E => ui_body base_RE ⟨xx17, xo17, xh17, xS17, xb17, xt17, xk17⟩ (PySem.W.mg_none_of X G xnRuntimeError) xF17 xf17 (pv 0) (pv 1) (pv 0) (pv 1)⟩, ⟨PySem.W.mg_of X G xa18, _, _, _, _, _, _, base_RE.F, ⟨xx18, xo18, xh18, xS18, xb18, xt18, xk18⟩, xi18, xj18, bindsK_of (fun_mk (st := s_Known___init__) xl18 xq18 xK18) (fun _ _ _ _ _ _ _ _ => rfl), fun _ _ _ => ui_ok (fun_mk (st := s_Known___init__) xl18 xq18 xK18) sc_Known___init__ fun cdv A outer s H E => ui_body base_RE ⟨xx18, xo18, xh18, xS18, xb18, xt18, xk18⟩ (PySem.W.mg_none_of X G xnRuntimeError) xF18 xf18 (pv 0) (pv 1) (pv 0) (pv 1)⟩, ⟨PySem.W.mg_of X G xa9, _, _, _, _, _, _, base_VE.F, ⟨xx9, xo9, xh9, xS9, xb9, xt9, xk9⟩, xi9, xj9, bindsK_of (fun_mk (st := s_Alike___init__) xl9 xq9 xK9) (fun _ _ _ _ _ _ _ _ => rfl), fun _ _ _ => ui_ok (fun_mk (st := s_Alike___init__) xl9 xq9 xK9) sc_Alike___init__ fun cdv A outer s H E => ui_body base_VE ⟨xx9, xo9, xh9, xS9, xb9, xt9, xk9⟩ (PySem.W.mg_none_of X G xnValueError) xF9 xf9 (pv 0) (pv 1) (pv 0) (pv 1)⟩, xs10_10, xs10_11, xs10_12, xs10_13, xs10_14, xs10_15, xs10_16, xs10_17, xs10_18, xs10_19, xs10_8, xs10_9, xs11_10, xs11_11, xs11_12, xs11_13, xs11_14, xs11_15, xs11_16, xs11_17, xs11_18, xs11_19, xs11_8, xs11_9, xs12_10, xs12_11, xs12_12, xs12_13, xs12_14, xs12_15, xs12_16, xs12_17, xs12_18, xs12_19, xs12_8, xs12_9, xs13_10, xs13_11, xs13_12, xs13_13, xs13_14, xs13_15, xs13_16, xs13_17, xs13_18, xs13_19, xs13_8, xs13_9, xs14_10, xs14_11, xs14_12, xs14_13, xs14_14, xs14_15, xs14_16, xs14_17, xs14_18, xs14_19, xs14_8, xs14_9, xs15_10, xs15_11, xs15_12, xs15_13, xs15_14, xs15_15, xs15_16, xs15_17, xs15_18, xs15_19, xs15_8, xs15_9, xs16_10, xs16_11, xs16_12, xs16_13, xs16_14, xs16_15, xs16_16, xs16_17, xs16_18, xs16_19, xs16_8, xs16_9, xs17_10, xs17_11, xs17_12, xs17_13, xs17_14, xs17_15, xs17_16, xs17_17, xs17_18, xs17_19, xs17_8, xs17_9, xs18_10, xs18_11, xs18_12, xs18_13, xs18_14, xs18_15, xs18_16, xs18_17, xs18_18, xs18_19, xs18_8, xs18_9, xs19_10, xs19_11, xs19_12, xs19_13, xs19_14, xs19_15, xs19_16, xs19_17, xs19_18, xs19_19, xs19_8, xs19_9, xs8_10, xs8_11, xs8_12, xs8_13, xs8_14, xs8_15, xs8_16, xs8_17, xs8_18, xs8_19, xs8_8, xs8_9, xs9_10, xs9_11, xs9_12, xs9_13, xs9_14, xs9_15, xs9_16, xs9_17, xs9_18, xs9_19, xs9_8, xs9_9, ⟨PySem.W.mg_of X G xa10, _, _, _, _, _, _, ["self", "at"], base_VE.F, ⟨xx10, xo10, xh10, xS10, xb10, xt10, xk10⟩, xi10, xj10, (fun_mk (st := s_BadText___init__) xl10 xq10 xK10).binds (fun _ _ _ _ _ _ us hl => match us, hl with | [_, _], _ => rfl), fun _ _ _ => ui_ok (fun_mk (st := s_BadText___init__) xl10 xq10 xK10) sc_BadText___init__ fun cdv A outer s H E => ui_body base_VE ⟨xx10, xo10, xh10, xS10, xb10, xt10, xk10⟩ (PySem.W.mg_none_of X G xnValueError) xF10 xf10 (pv 0) (pv 1) (pv 0) (pv 1)⟩, ⟨PySem.W.mg_of X G xa11, _, _, _, _, _, _, ["self", "row"], base_VE.F, ⟨xx11, xo11, xh11, xS11, xb11, xt11, xk11⟩, xi11, xj11, (fun_mk (st := s_BadRow___init__) xl11 xq11 xK11).binds (fun _ _ _ _ _ _ us hl => match us, hl with | [_, _], _ => rfl), fun _ _ _ => ui_ok (fun_mk (st := s_BadRow___init__) xl11 xq11 xK11) sc_BadRow___init__ fun cdv A outer s H E => ui_body base_VE ⟨xx11, xo11, xh11, xS11, xb11, xt11, xk11⟩ (PySem.W.mg_none_of X G xnValueError) xF11 xf11 (pv 0) (pv 1) (pv 0) (pv 1)⟩, ⟨PySem.W.mg_of X G xa12, _, _, _, _, _, _, ["self", "at"], base_VE.F, ⟨xx12, xo12, xh12, xS12, xb12, xt12, xk12⟩, xi12, xj12, (fun_mk (st := s_BadDeed___init__) xl12 xq12 xK12).binds (fun _ _ _ _ _ _ us hl => match us, hl with | [_, _], _ => rfl), fun _ _ _ => ui_ok (fun_mk (st := s_BadDeed___init__) xl12 xq12 xK12) sc_BadDeed___init__ fun cdv A outer s H E => ui_body base_VE ⟨xx12, xo12, xh12, xS12, xb12, xt12, xk12⟩ (PySem.W.mg_none_of X G xnValueError) xF12 xf12 (pv 0) (pv 1) (pv 0) (pv 1)⟩, ⟨PySem.W.mg_of X G xa13, _, _, _, _, _, _, ["self", "name"], base_LE.F, ⟨xx13, xo13, xh13, xS13, xb13, xt13, xk13⟩, xi13, xj13, (fun_mk (st := s_NoName___init__) xl13 xq13 xK13).binds (fun _ _ _ _ _ _ us hl => match us, hl with | [_, _], _ => rfl), fun _ _ _ => ui_ok (fun_mk (st := s_NoName___init__) xl13 xq13 xK13) sc_NoName___init__ fun cdv A outer s H E => ui_body base_LE ⟨xx13, xo13, xh13, xS13, xb13, xt13, xk13⟩ (PySem.W.mg_none_of X G xnLookupError) xF13 xf13 (pv 0) (pv 1) (pv 0) (pv 1)⟩, ⟨PySem.W.mg_of X G xa14, _, _, _, _, _, _, ["self", "place"], base_LE.F, ⟨xx14, xo14, xh14, xS14, xb14, xt14, xk14⟩, xi14, xj14, (fun_mk (st := s_NoPlace___init__) xl14 xq14 xK14).binds (fun _ _ _ _ _ _ us hl => match us, hl with | [_, _], _ => rfl), fun _ _ _ => ui_ok (fun_mk (st := s_NoPlace___init__) xl14 xq14 xK14) sc_NoPlace___init__ fun cdv A outer s H E => ui_body base_LE ⟨xx14, xo14, xh14, xS14, xb14, xt14, xk14⟩ (PySem.W.mg_none_of X G xnLookupError) xF14 xf14 (pv 0) (pv 1) (pv 0) (pv 1)⟩, ⟨PySem.W.mg_of X G xa15, _, _, _, _, _, _, ["self", "number"], base_LE.F, ⟨xx15, xo15, xh15, xS15, xb15, xt15, xk15⟩, xi15, xj15, (fun_mk (st := s_NoNumber___init__) xl15 xq15 xK15).binds (fun _ _ _ _ _ _ us hl => match us, hl with | [_, _], _ => rfl), fun _ _ _ => ui_ok (fun_mk (st := s_NoNumber___init__) xl15 xq15 xK15) sc_NoNumber___init__ fun cdv A outer s H E => ui_body base_LE ⟨xx15, xo15, xh15, xS15, xb15, xt15, xk15⟩ (PySem.W.mg_none_of X G xnLookupError) xF15 xf15 (pv 0) (pv 1) (pv 0) (pv 1)⟩, ⟨PySem.W.mg_of X G xa16, _, _, _, _, _, _, ["self", "many"], base_LE.F, ⟨xx16, xo16, xh16, xS16, xb16, xt16, xk16⟩, xi16, xj16, (fun_mk (st := s_NoDeed___init__) xl16 xq16 xK16).binds (fun _ _ _ _ _ _ us hl => match us, hl with | [_, _], _ => rfl), fun _ _ _ => ui_ok (fun_mk (st := s_NoDeed___init__) xl16 xq16 xK16) sc_NoDeed___init__ fun cdv A outer s H E => ui_body base_LE ⟨xx16, xo16, xh16, xS16, xb16, xt16, xk16⟩ (PySem.W.mg_none_of X G xnLookupError) xF16 xf16 (pv 0) (pv 1) (pv 0) (pv 1)⟩, ⟨PySem.W.mg_of X G xa17, _, _, _, _, _, _, ["self", "ring"], base_RE.F, ⟨xx17, xo17, xh17, xS17, xb17, xt17, xk17⟩, xi17, xj17, (fun_mk (st := s_Never___init__) xl17 xq17 xK17).binds (fun _ _ _ _ _ _ us hl => match us, hl with | [_, _], _ => rfl), fun _ _ _ => ui_ok (fun_mk (st := s_Never___init__) xl17 xq17 xK17) sc_Never___init__ fun cdv A outer s H E => ui_body base_RE ⟨xx17, xo17, xh17, xS17, xb17, xt17, xk17⟩ (PySem.W.mg_none_of X G xnRuntimeError) xF17 xf17 (pv 0) (pv 1) (pv 0) (pv 1)⟩, ⟨PySem.W.mg_of X G xa18, _, _, _, _, _, _, ["self", "name"], base_RE.F, ⟨xx18, xo18, xh18, xS18, xb18, xt18, xk18⟩, xi18, xj18, (fun_mk (st := s_Known___init__) xl18 xq18 xK18).binds (fun _ _ _ _ _ _ us hl => match us, hl with | [_, _], _ => rfl), fun _ _ _ => ui_ok (fun_mk (st := s_Known___init__) xl18 xq18 xK18) sc_Known___init__ fun cdv A outer s H E => ui_body base_RE ⟨xx18, xo18, xh18, xS18, xb18, xt18, xk18⟩ (PySem.W.mg_none_of X G xnRuntimeError) xF18 xf18 (pv 0) (pv 1) (pv 0) (pv 1)⟩, ⟨PySem.W.mg_of X G xa19, xk19, xx19, xb19, xt19⟩, ⟨PySem.W.mg_of X G xa8, xk8, xx8, xb8, xt8⟩, ⟨PySem.W.mg_of X G xa9, _, _, _, _, _, _, ["self", "name"], base_VE.F, ⟨xx9, xo9, xh9, xS9, xb9, xt9, xk9⟩, xi9, xj9, (fun_mk (st := s_Alike___init__) xl9 xq9 xK9).binds (fun _ _ _ _ _ _ us hl => match us, hl with | [_, _], _ => rfl), fun _ _ _ => ui_ok (fun_mk (st := s_Alike___init__) xl9 xq9 xK9) sc_Alike___init__ fun cdv A outer s H E => ui_body base_VE ⟨xx9, xo9, xh9, xS9, xb9, xt9, xk9⟩ (PySem.W.mg_none_of X G xnValueError) xF9 xf9 (pv 0) (pv 1) (pv 0) (pv 1)⟩, xv10_IndexError, xv10_KeyError, xv10_LookupError, xv10_NotImplementedError, xv10_OverflowError, xv10_RuntimeError, xv10_ValueError, xv11_IndexError, xv11_KeyError, xv11_LookupError, xv11_NotImplementedError, xv11_OverflowError, xv11_RuntimeError, xv11_ValueError, xv12_IndexError, xv12_KeyError, xv12_LookupError, xv12_NotImplementedError, xv12_OverflowError, xv12_RuntimeError, xv12_ValueError, xv13_IndexError, xv13_KeyError, xv13_LookupError, xv13_NotImplementedError, xv13_OverflowError, xv13_RuntimeError, xv13_ValueError, xv14_IndexError, xv14_KeyError, xv14_LookupError, xv14_NotImplementedError, xv14_OverflowError, xv14_RuntimeError, xv14_ValueError, xv15_IndexError, xv15_KeyError, xv15_LookupError, xv15_NotImplementedError, xv15_OverflowError, xv15_RuntimeError, xv15_ValueError, xv16_IndexError, xv16_KeyError, xv16_LookupError, xv16_NotImplementedError, xv16_OverflowError, xv16_RuntimeError, xv16_ValueError, xv17_IndexError, xv17_KeyError, xv17_LookupError, xv17_NotImplementedError, xv17_OverflowError, xv17_RuntimeError, xv17_ValueError, xv18_IndexError, xv18_KeyError, xv18_LookupError, xv18_NotImplementedError, xv18_OverflowError, xv18_RuntimeError, xv18_ValueError, xv19_IndexError, xv19_KeyError, xv19_LookupError, xv19_NotImplementedError, xv19_OverflowError, xv19_RuntimeError, xv19_ValueError, xv8_IndexError, xv8_KeyError, xv8_LookupError, xv8_NotImplementedError, xv8_OverflowError, xv8_RuntimeError, xv8_ValueError, xv9_IndexError, xv9_KeyError, xv9_LookupError, xv9_NotImplementedError, xv9_OverflowError, xv9_RuntimeError, xv9_ValueError⟩
  have e := hfa.symm.trans (PySem.W.mg_of X G a9)
  cases e
  have B : Bi mg := ⟨PySem.W.mg_none_of X G z_len, PySem.W.mg_none_of X G z_abs, PySem.W.mg_none_of X G z_int, PySem.W.mg_none_of X G z_max, PySem.W.mg_none_of X G z_min, PySem.W.mg_none_of X G z_all, PySem.W.mg_none_of X G z_any, PySem.W.mg_none_of X G z_sum, PySem.W.mg_none_of X G z_tuple, PySem.W.mg_none_of X G z_list, PySem.W.mg_none_of X G z_dict, PySem.W.mg_none_of X G z_sorted, PySem.W.mg_none_of X G z_isinstance, PySem.W.mg_none_of X G z_str, PySem.W.mg_none_of X G z_bool, PySem.W.mg_none_of X G z_range, PySem.W.mg_none_of X G z_enumerate, PySem.W.mg_none_of X G z_zip, PySem.W.mg_none_of X G z_reversed, PySem.W.mg_none_of X G z_repr, PySem.W.mg_none_of X G z_set⟩
  have F0 := fun_mk (st := s__law_box) l0 c0 k0
  have F1 := fun_mk (st := s__law_take) l1 c1 k1
  have F2 := fun_mk (st := s__law_pick) l2 c2 k2
  have F3 := fun_mk (st := s__law_same) l3 c3 k3
  have F4 := fun_mk (st := s__law_folded) l4 c4 k4
  have F5 := fun_mk (st := s__law_kinds) l5 c5 k5
  have F6 := fun_mk (st := s__law_bases) l6 c6 k6
  have F7 := fun_mk (st := s__law_made_right) l7 c7 k7
  have F8 := fun_mk (st := s__law_right) l8 c8 k8
  have F9 := fun_mk (st := s_law) l9 c9 k9
  refine ⟨PySem.W.fnOf "law" "law" (defArgs s_law) (defBody s_law) (defScope s_law) .none kV9 dc9 pm9 an9 cd9 ct9, [], m_law T, fun s v => .of_eq rfl, ?_, ?_, fun base _ _ TB => ?_, law_true T⟩
  · intro t ht
    cases ht
  · exact List.nodup_nil
  have g__law_folded := ok__law_folded (base := base) _ _ F4 (PySem.W.mg_of X G a4) B 
  have g__law_take := ok__law_take (base := base) _ _ F1 (PySem.W.mg_of X G a1) B 
  have g__law_pick := ok__law_pick (base := base) _ _ F2 (PySem.W.mg_of X G a2) B g__law_take
  have g__law_same := ok__law_same (base := base) _ _ F3 (PySem.W.mg_of X G a3) B  12
  have g__law_kinds := ok__law_kinds (base := base) _ _ F5 (PySem.W.mg_of X G a5) B T ER
  have g__law_bases := ok__law_bases (base := base) _ _ F6 (PySem.W.mg_of X G a6) B T ER
  have g__law_made_right := ok__law_made_right (base := base) _ _ F7 (PySem.W.mg_of X G a7) B T g__law_same g__law_kinds g__law_bases ER
  have g__law_right := ok__law_right (base := base) _ _ F8 (PySem.W.mg_of X G a8) B T g__law_pick g__law_made_right g__law_take ER
  have g__law_box := ok__law_box (base := base) _ _ F0 (PySem.W.mg_of X G a0) B 
  exact ok_law (base := base) _ _ F9 (PySem.W.mg_of X G a9) B T g__law_folded g__law_right g__law_box
end LW
open PySem PySem.W PyProof.Rows
set_option maxRecDepth 100000 in
set_option maxHeartbeats 0 in
theorem PySem.Challenge.cw_standby_k92_refusals_made_by_hand_holds : PySem.Challenge.rw_standby_k92_refusals_made_by_hand.Holds := by
  w_on; o_law; k_head; (case hw => w_witness2)
  k_fill
  refine DL.walk_gO (l := PySem.Challenge.rw_standby_k92_refusals_made_by_hand) (k := 15) (x := "_law_script") (xs := []) rfl rfl ⟨rfl, by decide, by decide⟩ (fun w h Y => by first | exact PySem.W.kIn_of Y | exact PySem.W.km_in_of Y) ?nl ?rc ?F
  case nl => intro w; first | rfl | kernel_rfl | decide +kernel
  case rc => intro x hx; cases hx
  case F =>
    intro w mg fa h KX G hmg
    refine' LW.all_mk KX G hmg ?a0 ?l0 ?c0 ?k0 ?a1 ?l1 ?c1 ?k1 ?a2 ?l2 ?c2 ?k2 ?a3 ?l3 ?c3 ?k3 ?a4 ?l4 ?c4 ?k4 ?a5 ?l5 ?c5 ?k5 ?a6 ?l6 ?c6 ?k6 ?a7 ?l7 ?c7 ?k7 ?a8 ?l8 ?c8 ?k8 ?a9 ?l9 ?c9 ?k9 ?xa8 ?xk8 ?xb8 ?xt8 ?xh8 ?xx8 ?xg8 ?xG8 ?xc8 ?xm8 ?xa9 ?xk9 ?xb9 ?xt9 ?xh9 ?xx9 ?xo9 ?xS9 ?xi9 ?xj9 ?xl9 ?xq9 ?xK9 ?xF9 ?xg9 ?xG9 ?xc9 ?xm9 ?xa10 ?xk10 ?xb10 ?xt10 ?xh10 ?xx10 ?xo10 ?xS10 ?xi10 ?xj10 ?xl10 ?xq10 ?xK10 ?xF10 ?xg10 ?xG10 ?xc10 ?xm10 ?xa11 ?xk11 ?xb11 ?xt11 ?xh11 ?xx11 ?xo11 ?xS11 ?xi11 ?xj11 ?xl11 ?xq11 ?xK11 ?xF11 ?xg11 ?xG11 ?xc11 ?xm11 ?xa12 ?xk12 ?xb12 ?xt12 ?xh12 ?xx12 ?xo12 ?xS12 ?xi12 ?xj12 ?xl12 ?xq12 ?xK12 ?xF12 ?xg12 ?xG12 ?xc12 ?xm12 ?xa13 ?xk13 ?xb13 ?xt13 ?xh13 ?xx13 ?xo13 ?xS13 ?xi13 ?xj13 ?xl13 ?xq13 ?xK13 ?xF13 ?xg13 ?xG13 ?xc13 ?xm13 ?xa14 ?xk14 ?xb14 ?xt14 ?xh14 ?xx14 ?xo14 ?xS14 ?xi14 ?xj14 ?xl14 ?xq14 ?xK14 ?xF14 ?xg14 ?xG14 ?xc14 ?xm14 ?xa15 ?xk15 ?xb15 ?xt15 ?xh15 ?xx15 ?xo15 ?xS15 ?xi15 ?xj15 ?xl15 ?xq15 ?xK15 ?xF15 ?xg15 ?xG15 ?xc15 ?xm15 ?xa16 ?xk16 ?xb16 ?xt16 ?xh16 ?xx16 ?xo16 ?xS16 ?xi16 ?xj16 ?xl16 ?xq16 ?xK16 ?xF16 ?xg16 ?xG16 ?xc16 ?xm16 ?xa17 ?xk17 ?xb17 ?xt17 ?xh17 ?xx17 ?xo17 ?xS17 ?xi17 ?xj17 ?xl17 ?xq17 ?xK17 ?xF17 ?xg17 ?xG17 ?xc17 ?xm17 ?xa18 ?xk18 ?xb18 ?xt18 ?xh18 ?xx18 ?xo18 ?xS18 ?xi18 ?xj18 ?xl18 ?xq18 ?xK18 ?xF18 ?xg18 ?xG18 ?xc18 ?xm18 ?xa19 ?xk19 ?xb19 ?xt19 ?xh19 ?xx19 ?xg19 ?xG19 ?xc19 ?xm19 ?xnIndexError ?xnKeyError ?xnLookupError ?xnNotImplementedError ?xnOverflowError ?xnRuntimeError ?xnValueError ?xf10 ?xf11 ?xf12 ?xf13 ?xf14 ?xf15 ?xf16 ?xf17 ?xf18 ?xf9 ?xs10_10 ?xs10_11 ?xs10_12 ?xs10_13 ?xs10_14 ?xs10_15 ?xs10_16 ?xs10_17 ?xs10_18 ?xs10_19 ?xs10_8 ?xs10_9 ?xs11_10 ?xs11_11 ?xs11_12 ?xs11_13 ?xs11_14 ?xs11_15 ?xs11_16 ?xs11_17 ?xs11_18 ?xs11_19 ?xs11_8 ?xs11_9 ?xs12_10 ?xs12_11 ?xs12_12 ?xs12_13 ?xs12_14 ?xs12_15 ?xs12_16 ?xs12_17 ?xs12_18 ?xs12_19 ?xs12_8 ?xs12_9 ?xs13_10 ?xs13_11 ?xs13_12 ?xs13_13 ?xs13_14 ?xs13_15 ?xs13_16 ?xs13_17 ?xs13_18 ?xs13_19 ?xs13_8 ?xs13_9 ?xs14_10 ?xs14_11 ?xs14_12 ?xs14_13 ?xs14_14 ?xs14_15 ?xs14_16 ?xs14_17 ?xs14_18 ?xs14_19 ?xs14_8 ?xs14_9 ?xs15_10 ?xs15_11 ?xs15_12 ?xs15_13 ?xs15_14 ?xs15_15 ?xs15_16 ?xs15_17 ?xs15_18 ?xs15_19 ?xs15_8 ?xs15_9 ?xs16_10 ?xs16_11 ?xs16_12 ?xs16_13 ?xs16_14 ?xs16_15 ?xs16_16 ?xs16_17 ?xs16_18 ?xs16_19 ?xs16_8 ?xs16_9 ?xs17_10 ?xs17_11 ?xs17_12 ?xs17_13 ?xs17_14 ?xs17_15 ?xs17_16 ?xs17_17 ?xs17_18 ?xs17_19 ?xs17_8 ?xs17_9 ?xs18_10 ?xs18_11 ?xs18_12 ?xs18_13 ?xs18_14 ?xs18_15 ?xs18_16 ?xs18_17 ?xs18_18 ?xs18_19 ?xs18_8 ?xs18_9 ?xs19_10 ?xs19_11 ?xs19_12 ?xs19_13 ?xs19_14 ?xs19_15 ?xs19_16 ?xs19_17 ?xs19_18 ?xs19_19 ?xs19_8 ?xs19_9 ?xs8_10 ?xs8_11 ?xs8_12 ?xs8_13 ?xs8_14 ?xs8_15 ?xs8_16 ?xs8_17 ?xs8_18 ?xs8_19 ?xs8_8 ?xs8_9 ?xs9_10 ?xs9_11 ?xs9_12 ?xs9_13 ?xs9_14 ?xs9_15 ?xs9_16 ?xs9_17 ?xs9_18 ?xs9_19 ?xs9_8 ?xs9_9 ?xv10_IndexError ?xv10_KeyError ?xv10_LookupError ?xv10_NotImplementedError ?xv10_OverflowError ?xv10_RuntimeError ?xv10_ValueError ?xv11_IndexError ?xv11_KeyError ?xv11_LookupError ?xv11_NotImplementedError ?xv11_OverflowError ?xv11_RuntimeError ?xv11_ValueError ?xv12_IndexError ?xv12_KeyError ?xv12_LookupError ?xv12_NotImplementedError ?xv12_OverflowError ?xv12_RuntimeError ?xv12_ValueError ?xv13_IndexError ?xv13_KeyError ?xv13_LookupError ?xv13_NotImplementedError ?xv13_OverflowError ?xv13_RuntimeError ?xv13_ValueError ?xv14_IndexError ?xv14_KeyError ?xv14_LookupError ?xv14_NotImplementedError ?xv14_OverflowError ?xv14_RuntimeError ?xv14_ValueError ?xv15_IndexError ?xv15_KeyError ?xv15_LookupError ?xv15_NotImplementedError ?xv15_OverflowError ?xv15_RuntimeError ?xv15_ValueError ?xv16_IndexError ?xv16_KeyError ?xv16_LookupError ?xv16_NotImplementedError ?xv16_OverflowError ?xv16_RuntimeError ?xv16_ValueError ?xv17_IndexError ?xv17_KeyError ?xv17_LookupError ?xv17_NotImplementedError ?xv17_OverflowError ?xv17_RuntimeError ?xv17_ValueError ?xv18_IndexError ?xv18_KeyError ?xv18_LookupError ?xv18_NotImplementedError ?xv18_OverflowError ?xv18_RuntimeError ?xv18_ValueError ?xv19_IndexError ?xv19_KeyError ?xv19_LookupError ?xv19_NotImplementedError ?xv19_OverflowError ?xv19_RuntimeError ?xv19_ValueError ?xv8_IndexError ?xv8_KeyError ?xv8_LookupError ?xv8_NotImplementedError ?xv8_OverflowError ?xv8_RuntimeError ?xv8_ValueError ?xv9_IndexError ?xv9_KeyError ?xv9_LookupError ?xv9_NotImplementedError ?xv9_OverflowError ?xv9_RuntimeError ?xv9_ValueError ?xhn ?xtk ?z_len ?z_abs ?z_int ?z_max ?z_min ?z_all ?z_any ?z_sum ?z_tuple ?z_list ?z_dict ?z_sorted ?z_isinstance ?z_str ?z_bool ?z_range ?z_enumerate ?z_zip ?z_reversed ?z_repr ?z_set
    (case xa8 => first | k_is | rfl | kernel_rfl | decide +kernel)
    (case xk8 => first | k_is | rfl | kernel_rfl | decide +kernel)
    (case xb8 => first | k_is | rfl | kernel_rfl | decide +kernel)
    (case xt8 => first | k_is | rfl | kernel_rfl | decide +kernel)
    (case xh8 => first | k_is | rfl | kernel_rfl | decide +kernel)
    (case xx8 => first | k_exc | kx_is)
    (case xg8 => first | k_is | rfl | kernel_rfl | decide +kernel)
    (case xG8 => first | k_is | rfl | kernel_rfl | decide +kernel)
    (case xc8 => first | k_is | rfl | kernel_rfl | decide +kernel)
    (case xm8 => first | k_is | rfl | kernel_rfl | decide +kernel)
    (case xa9 => first | k_is | rfl | kernel_rfl | decide +kernel)
    (case xk9 => first | k_is | rfl | kernel_rfl | decide +kernel)
    (case xb9 => first | k_is | rfl | kernel_rfl | decide +kernel)
    (case xt9 => first | k_is | rfl | kernel_rfl | decide +kernel)
    (case xh9 => first | k_is | rfl | kernel_rfl | decide +kernel)
    (case xx9 => first | k_exc | kx_is)
    (case xo9 => first | k_is | kx_is)
    (case xS9 => first | k_is | rfl | kernel_rfl | decide +kernel)
    (case xi9 => first | k_is | rfl | kernel_rfl | decide +kernel)
    (case xj9 => first | k_is | rfl | kernel_rfl | decide +kernel)
    (case xl9 => first | k_is | rfl | kernel_rfl | decide +kernel)
    (case xq9 => first | k_is | rfl | kernel_rfl | decide +kernel)
    (case xK9 => first | k_is | rfl | kernel_rfl | decide +kernel)
    (case xF9 => first | k_is | rfl | kernel_rfl | decide +kernel)
    (case xg9 => first | k_is | rfl | kernel_rfl | decide +kernel)
    (case xG9 => first | k_is | rfl | kernel_rfl | decide +kernel)
    (case xc9 => first | k_is | rfl | kernel_rfl | decide +kernel)
    (case xm9 => first | k_is | rfl | kernel_rfl | decide +kernel)
    (case xa10 => first | k_is | rfl | kernel_rfl | decide +kernel)
    (case xk10 => first | k_is | rfl | kernel_rfl | decide +kernel)
    (case xb10 => first | k_is | rfl | kernel_rfl | decide +kernel)
    (case xt10 => first | k_is | rfl | kernel_rfl | decide +kernel)
    (case xh10 => first | k_is | rfl | kernel_rfl | decide +kernel)
    (case xx10 => first | k_exc | kx_is)
    (case xo10 => first | k_is | kx_is)
    (case xS10 => first | k_is | rfl | kernel_rfl | decide +kernel)
    (case xi10 => first | k_is | rfl | kernel_rfl | decide +kernel)
    (case xj10 => first | k_is | rfl | kernel_rfl | decide +kernel)
    (case xl10 => first | k_is | rfl | kernel_rfl | decide +kernel)
    (case xq10 => first | k_is | rfl | kernel_rfl | decide +kernel)
    (case xK10 => first | k_is | rfl | kernel_rfl | decide +kernel)
    (case xF10 => first | k_is | rfl | kernel_rfl | decide +kernel)
    (case xg10 => first | k_is | rfl | kernel_rfl | decide +kernel)
    (case xG10 => first | k_is | rfl | kernel_rfl | decide +kernel)
    (case xc10 => first | k_is | rfl | kernel_rfl | decide +kernel)
    (case xm10 => first | k_is | rfl | kernel_rfl | decide +kernel)
    (case xa11 => first | k_is | rfl | kernel_rfl | decide +kernel)
    (case xk11 => first | k_is | rfl | kernel_rfl | decide +kernel)
    (case xb11 => first | k_is | rfl | kernel_rfl | decide +kernel)
    (case xt11 => first | k_is | rfl | kernel_rfl | decide +kernel)
    (case xh11 => first | k_is | rfl | kernel_rfl | decide +kernel)
    (case xx11 => first | k_exc | kx_is)
    (case xo11 => first | k_is | kx_is)
    (case xS11 => first | k_is | rfl | kernel_rfl | decide +kernel)
    (case xi11 => first | k_is | rfl | kernel_rfl | decide +kernel)
    (case xj11 => first | k_is | rfl | kernel_rfl | decide +kernel)
    (case xl11 => first | k_is | rfl | kernel_rfl | decide +kernel)
    (case xq11 => first | k_is | rfl | kernel_rfl | decide +kernel)
    (case xK11 => first | k_is | rfl | kernel_rfl | decide +kernel)
    (case xF11 => first | k_is | rfl | kernel_rfl | decide +kernel)
    (case xg11 => first | k_is | rfl | kernel_rfl | decide +kernel)
    (case xG11 => first | k_is | rfl | kernel_rfl | decide +kernel)
    (case xc11 => first | k_is | rfl | kernel_rfl | decide +kernel)
    (case xm11 => first | k_is | rfl | kernel_rfl | decide +kernel)
    (case xa12 => first | k_is | rfl | kernel_rfl | decide +kernel)
    (case xk12 => first | k_is | rfl | kernel_rfl | decide +kernel)
    (case xb12 => first | k_is | rfl | kernel_rfl | decide +kernel)
    (case xt12 => first | k_is | rfl | kernel_rfl | decide +kernel)
    (case xh12 => first | k_is | rfl | kernel_rfl | decide +kernel)
    (case xx12 => first | k_exc | kx_is)
    (case xo12 => first | k_is | kx_is)
    (case xS12 => first | k_is | rfl | kernel_rfl | decide +kernel)
    (case xi12 => first | k_is | rfl | kernel_rfl | decide +kernel)
    (case xj12 => first | k_is | rfl | kernel_rfl | decide +kernel)
    (case xl12 => first | k_is | rfl | kernel_rfl | decide +kernel)
    (case xq12 => first | k_is | rfl | kernel_rfl | decide +kernel)
    (case xK12 => first | k_is | rfl | kernel_rfl | decide +kernel)
    (case xF12 => first | k_is | rfl | kernel_rfl | decide +kernel)
    (case xg12 => first | k_is | rfl | kernel_rfl | decide +kernel)
    (case xG12 => first | k_is | rfl | kernel_rfl | decide +kernel)
    (case xc12 => first | k_is | rfl | kernel_rfl | decide +kernel)
    (case xm12 => first | k_is | rfl | kernel_rfl | decide +kernel)
    (case xa13 => first | k_is | rfl | kernel_rfl | decide +kernel)
    (case xk13 => first | k_is | rfl | kernel_rfl | decide +kernel)
    (case xb13 => first | k_is | rfl | kernel_rfl | decide +kernel)
    (case xt13 => first | k_is | rfl | kernel_rfl | decide +kernel)
    (case xh13 => first | k_is | rfl | kernel_rfl | decide +kernel)
    (case xx13 => first | k_exc | kx_is)
    (case xo13 => first | k_is | kx_is)
    (case xS13 => first | k_is | rfl | kernel_rfl | decide +kernel)
    (case xi13 => first | k_is | rfl | kernel_rfl | decide +kernel)
    (case xj13 => first | k_is | rfl | kernel_rfl | decide +kernel)
    (case xl13 => first | k_is | rfl | kernel_rfl | decide +kernel)
    (case xq13 => first | k_is | rfl | kernel_rfl | decide +kernel)
    (case xK13 => first | k_is | rfl | kernel_rfl | decide +kernel)
    (case xF13 => first | k_is | rfl | kernel_rfl | decide +kernel)
    (case xg13 => first | k_is | rfl | kernel_rfl | decide +kernel)
    (case xG13 => first | k_is | rfl | kernel_rfl | decide +kernel)
    (case xc13 => first | k_is | rfl | kernel_rfl | decide +kernel)
    (case xm13 => first | k_is | rfl | kernel_rfl | decide +kernel)
    (case xa14 => first | k_is | rfl | kernel_rfl | decide +kernel)
    (case xk14 => first | k_is | rfl | kernel_rfl | decide +kernel)
    (case xb14 => first | k_is | rfl | kernel_rfl | decide +kernel)
    (case xt14 => first | k_is | rfl | kernel_rfl | decide +kernel)
    (case xh14 => first | k_is | rfl | kernel_rfl | decide +kernel)
    (case xx14 => first | k_exc | kx_is)
    (case xo14 => first | k_is | kx_is)
    (case xS14 => first | k_is | rfl | kernel_rfl | decide +kernel)
    (case xi14 => first | k_is | rfl | kernel_rfl | decide +kernel)
    (case xj14 => first | k_is | rfl | kernel_rfl | decide +kernel)
    (case xl14 => first | k_is | rfl | kernel_rfl | decide +kernel)
    (case xq14 => first | k_is | rfl | kernel_rfl | decide +kernel)
    (case xK14 => first | k_is | rfl | kernel_rfl | decide +kernel)
    (case xF14 => first | k_is | rfl | kernel_rfl | decide +kernel)
    (case xg14 => first | k_is | rfl | kernel_rfl | decide +kernel)
    (case xG14 => first | k_is | rfl | kernel_rfl | decide +kernel)
    (case xc14 => first | k_is | rfl | kernel_rfl | decide +kernel)
    (case xm14 => first | k_is | rfl | kernel_rfl | decide +kernel)
    (case xa15 => first | k_is | rfl | kernel_rfl | decide +kernel)
    (case xk15 => first | k_is | rfl | kernel_rfl | decide +kernel)
    (case xb15 => first | k_is | rfl | kernel_rfl | decide +kernel)
    (case xt15 => first | k_is | rfl | kernel_rfl | decide +kernel)
    (case xh15 => first | k_is | rfl | kernel_rfl | decide +kernel)
    (case xx15 => first | k_exc | kx_is)
    (case xo15 => first | k_is | kx_is)
    (case xS15 => first | k_is | rfl | kernel_rfl | decide +kernel)
    (case xi15 => first | k_is | rfl | kernel_rfl | decide +kernel)
    (case xj15 => first | k_is | rfl | kernel_rfl | decide +kernel)
    (case xl15 => first | k_is | rfl | kernel_rfl | decide +kernel)
    (case xq15 => first | k_is | rfl | kernel_rfl | decide +kernel)
    (case xK15 => first | k_is | rfl | kernel_rfl | decide +kernel)
    (case xF15 => first | k_is | rfl | kernel_rfl | decide +kernel)
    (case xg15 => first | k_is | rfl | kernel_rfl | decide +kernel)
    (case xG15 => first | k_is | rfl | kernel_rfl | decide +kernel)
    (case xc15 => first | k_is | rfl | kernel_rfl | decide +kernel)
    (case xm15 => first | k_is | rfl | kernel_rfl | decide +kernel)
    (case xa16 => first | k_is | rfl | kernel_rfl | decide +kernel)
    (case xk16 => first | k_is | rfl | kernel_rfl | decide +kernel)
    (case xb16 => first | k_is | rfl | kernel_rfl | decide +kernel)
    (case xt16 => first | k_is | rfl | kernel_rfl | decide +kernel)
    (case xh16 => first | k_is | rfl | kernel_rfl | decide +kernel)
    (case xx16 => first | k_exc | kx_is)
    (case xo16 => first | k_is | kx_is)
    (case xS16 => first | k_is | rfl | kernel_rfl | decide +kernel)
    (case xi16 => first | k_is | rfl | kernel_rfl | decide +kernel)
    (case xj16 => first | k_is | rfl | kernel_rfl | decide +kernel)
    (case xl16 => first | k_is | rfl | kernel_rfl | decide +kernel)
    (case xq16 => first | k_is | rfl | kernel_rfl | decide +kernel)
    (case xK16 => first | k_is | rfl | kernel_rfl | decide +kernel)
    (case xF16 => first | k_is | rfl | kernel_rfl | decide +kernel)
    (case xg16 => first | k_is | rfl | kernel_rfl | decide +kernel)
    (case xG16 => first | k_is | rfl | kernel_rfl | decide +kernel)
    (case xc16 => first | k_is | rfl | kernel_rfl | decide +kernel)
    (case xm16 => first | k_is | rfl | kernel_rfl | decide +kernel)
    (case xa17 => first | k_is | rfl | kernel_rfl | decide +kernel)
    (case xk17 => first | k_is | rfl | kernel_rfl | decide +kernel)
    (case xb17 => first | k_is | rfl | kernel_rfl | decide +kernel)
    (case xt17 => first | k_is | rfl | kernel_rfl | decide +kernel)
    (case xh17 => first | k_is | rfl | kernel_rfl | decide +kernel)
    (case xx17 => first | k_exc | kx_is)
    (case xo17 => first | k_is | kx_is)
    (case xS17 => first | k_is | rfl | kernel_rfl | decide +kernel)
    (case xi17 => first | k_is | rfl | kernel_rfl | decide +kernel)
    (case xj17 => first | k_is | rfl | kernel_rfl | decide +kernel)
    (case xl17 => first | k_is | rfl | kernel_rfl | decide +kernel)
    (case xq17 => first | k_is | rfl | kernel_rfl | decide +kernel)
    (case xK17 => first | k_is | rfl | kernel_rfl | decide +kernel)
    (case xF17 => first | k_is | rfl | kernel_rfl | decide +kernel)
    (case xg17 => first | k_is | rfl | kernel_rfl | decide +kernel)
    (case xG17 => first | k_is | rfl | kernel_rfl | decide +kernel)
    (case xc17 => first | k_is | rfl | kernel_rfl | decide +kernel)
    (case xm17 => first | k_is | rfl | kernel_rfl | decide +kernel)
    (case xa18 => first | k_is | rfl | kernel_rfl | decide +kernel)
    (case xk18 => first | k_is | rfl | kernel_rfl | decide +kernel)
    (case xb18 => first | k_is | rfl | kernel_rfl | decide +kernel)
    (case xt18 => first | k_is | rfl | kernel_rfl | decide +kernel)
    (case xh18 => first | k_is | rfl | kernel_rfl | decide +kernel)
    (case xx18 => first | k_exc | kx_is)
    (case xo18 => first | k_is | kx_is)
    (case xS18 => first | k_is | rfl | kernel_rfl | decide +kernel)
    (case xi18 => first | k_is | rfl | kernel_rfl | decide +kernel)
    (case xj18 => first | k_is | rfl | kernel_rfl | decide +kernel)
    (case xl18 => first | k_is | rfl | kernel_rfl | decide +kernel)
    (case xq18 => first | k_is | rfl | kernel_rfl | decide +kernel)
    (case xK18 => first | k_is | rfl | kernel_rfl | decide +kernel)
    (case xF18 => first | k_is | rfl | kernel_rfl | decide +kernel)
    (case xg18 => first | k_is | rfl | kernel_rfl | decide +kernel)
    (case xG18 => first | k_is | rfl | kernel_rfl | decide +kernel)
    (case xc18 => first | k_is | rfl | kernel_rfl | decide +kernel)
    (case xm18 => first | k_is | rfl | kernel_rfl | decide +kernel)
    (case xa19 => first | k_is | rfl | kernel_rfl | decide +kernel)
    (case xk19 => first | k_is | rfl | kernel_rfl | decide +kernel)
    (case xb19 => first | k_is | rfl | kernel_rfl | decide +kernel)
    (case xt19 => first | k_is | rfl | kernel_rfl | decide +kernel)
    (case xh19 => first | k_is | rfl | kernel_rfl | decide +kernel)
    (case xx19 => first | k_exc | kx_is)
    (case xg19 => first | k_is | rfl | kernel_rfl | decide +kernel)
    (case xG19 => first | k_is | rfl | kernel_rfl | decide +kernel)
    (case xc19 => first | k_is | rfl | kernel_rfl | decide +kernel)
    (case xm19 => first | k_is | rfl | kernel_rfl | decide +kernel)
    (case xnIndexError => first | k_is | rfl | kernel_rfl | decide +kernel)
    (case xnKeyError => first | k_is | rfl | kernel_rfl | decide +kernel)
    (case xnLookupError => first | k_is | rfl | kernel_rfl | decide +kernel)
    (case xnNotImplementedError => first | k_is | rfl | kernel_rfl | decide +kernel)
    (case xnOverflowError => first | k_is | rfl | kernel_rfl | decide +kernel)
    (case xnRuntimeError => first | k_is | rfl | kernel_rfl | decide +kernel)
    (case xnValueError => first | k_is | rfl | kernel_rfl | decide +kernel)
    (case xf10 => first | k_is | rfl | kernel_rfl | decide +kernel)
    (case xf11 => first | k_is | rfl | kernel_rfl | decide +kernel)
    (case xf12 => first | k_is | rfl | kernel_rfl | decide +kernel)
    (case xf13 => first | k_is | rfl | kernel_rfl | decide +kernel)
    (case xf14 => first | k_is | rfl | kernel_rfl | decide +kernel)
    (case xf15 => first | k_is | rfl | kernel_rfl | decide +kernel)
    (case xf16 => first | k_is | rfl | kernel_rfl | decide +kernel)
    (case xf17 => first | k_is | rfl | kernel_rfl | decide +kernel)
    (case xf18 => first | k_is | rfl | kernel_rfl | decide +kernel)
    (case xf9 => first | k_is | rfl | kernel_rfl | decide +kernel)
    (case xs10_10 => first | k_is | rfl | kernel_rfl | decide +kernel)
    (case xs10_11 => first | k_is | rfl | kernel_rfl | decide +kernel)
    (case xs10_12 => first | k_is | rfl | kernel_rfl | decide +kernel)
    (case xs10_13 => first | k_is | rfl | kernel_rfl | decide +kernel)
    (case xs10_14 => first | k_is | rfl | kernel_rfl | decide +kernel)
    (case xs10_15 => first | k_is | rfl | kernel_rfl | decide +kernel)
    (case xs10_16 => first | k_is | rfl | kernel_rfl | decide +kernel)
    (case xs10_17 => first | k_is | rfl | kernel_rfl | decide +kernel)
    (case xs10_18 => first | k_is | rfl | kernel_rfl | decide +kernel)
    (case xs10_19 => first | k_is | rfl | kernel_rfl | decide +kernel)
    (case xs10_8 => first | k_is | rfl | kernel_rfl | decide +kernel)
    (case xs10_9 => first | k_is | rfl | kernel_rfl | decide +kernel)
    (case xs11_10 => first | k_is | rfl | kernel_rfl | decide +kernel)
    (case xs11_11 => first | k_is | rfl | kernel_rfl | decide +kernel)
    (case xs11_12 => first | k_is | rfl | kernel_rfl | decide +kernel)
    (case xs11_13 => first | k_is | rfl | kernel_rfl | decide +kernel)
    (case xs11_14 => first | k_is | rfl | kernel_rfl | decide +kernel)
    (case xs11_15 => first | k_is | rfl | kernel_rfl | decide +kernel)
    (case xs11_16 => first | k_is | rfl | kernel_rfl | decide +kernel)
    (case xs11_17 => first | k_is | rfl | kernel_rfl | decide +kernel)
    (case xs11_18 => first | k_is | rfl | kernel_rfl | decide +kernel)
    (case xs11_19 => first | k_is | rfl | kernel_rfl | decide +kernel)
    (case xs11_8 => first | k_is | rfl | kernel_rfl | decide +kernel)
    (case xs11_9 => first | k_is | rfl | kernel_rfl | decide +kernel)
    (case xs12_10 => first | k_is | rfl | kernel_rfl | decide +kernel)
    (case xs12_11 => first | k_is | rfl | kernel_rfl | decide +kernel)
    (case xs12_12 => first | k_is | rfl | kernel_rfl | decide +kernel)
    (case xs12_13 => first | k_is | rfl | kernel_rfl | decide +kernel)
    (case xs12_14 => first | k_is | rfl | kernel_rfl | decide +kernel)
    (case xs12_15 => first | k_is | rfl | kernel_rfl | decide +kernel)
    (case xs12_16 => first | k_is | rfl | kernel_rfl | decide +kernel)
    (case xs12_17 => first | k_is | rfl | kernel_rfl | decide +kernel)
    (case xs12_18 => first | k_is | rfl | kernel_rfl | decide +kernel)
    (case xs12_19 => first | k_is | rfl | kernel_rfl | decide +kernel)
    (case xs12_8 => first | k_is | rfl | kernel_rfl | decide +kernel)
    (case xs12_9 => first | k_is | rfl | kernel_rfl | decide +kernel)
    (case xs13_10 => first | k_is | rfl | kernel_rfl | decide +kernel)
    (case xs13_11 => first | k_is | rfl | kernel_rfl | decide +kernel)
    (case xs13_12 => first | k_is | rfl | kernel_rfl | decide +kernel)
    (case xs13_13 => first | k_is | rfl | kernel_rfl | decide +kernel)
    (case xs13_14 => first | k_is | rfl | kernel_rfl | decide +kernel)
    (case xs13_15 => first | k_is | rfl | kernel_rfl | decide +kernel)
    (case xs13_16 => first | k_is | rfl | kernel_rfl | decide +kernel)
    (case xs13_17 => first | k_is | rfl | kernel_rfl | decide +kernel)
    (case xs13_18 => first | k_is | rfl | kernel_rfl | decide +kernel)
    (case xs13_19 => first | k_is | rfl | kernel_rfl | decide +kernel)
    (case xs13_8 => first | k_is | rfl | kernel_rfl | decide +kernel)
    (case xs13_9 => first | k_is | rfl | kernel_rfl | decide +kernel)
    (case xs14_10 => first | k_is | rfl | kernel_rfl | decide +kernel)
    (case xs14_11 => first | k_is | rfl | kernel_rfl | decide +kernel)
    (case xs14_12 => first | k_is | rfl | kernel_rfl | decide +kernel)
    (case xs14_13 => first | k_is | rfl | kernel_rfl | decide +kernel)
    (case xs14_14 => first | k_is | rfl | kernel_rfl | decide +kernel)
    (case xs14_15 => first | k_is | rfl | kernel_rfl | decide +kernel)
    (case xs14_16 => first | k_is | rfl | kernel_rfl | decide +kernel)
    (case xs14_17 => first | k_is | rfl | kernel_rfl | decide +kernel)
    (case xs14_18 => first | k_is | rfl | kernel_rfl | decide +kernel)
    (case xs14_19 => first | k_is | rfl | kernel_rfl | decide +kernel)
    (case xs14_8 => first | k_is | rfl | kernel_rfl | decide +kernel)
    (case xs14_9 => first | k_is | rfl | kernel_rfl | decide +kernel)
    (case xs15_10 => first | k_is | rfl | kernel_rfl | decide +kernel)
    (case xs15_11 => first | k_is | rfl | kernel_rfl | decide +kernel)
    (case xs15_12 => first | k_is | rfl | kernel_rfl | decide +kernel)
    (case xs15_13 => first | k_is | rfl | kernel_rfl | decide +kernel)
    (case xs15_14 => first | k_is | rfl | kernel_rfl | decide +kernel)
    (case xs15_15 => first | k_is | rfl | kernel_rfl | decide +kernel)
    (case xs15_16 => first | k_is | rfl | kernel_rfl | decide +kernel)
    (case xs15_17 => first | k_is | rfl | kernel_rfl | decide +kernel)
    (case xs15_18 => first | k_is | rfl | kernel_rfl | decide +kernel)
    (case xs15_19 => first | k_is | rfl | kernel_rfl | decide +kernel)
    (case xs15_8 => first | k_is | rfl | kernel_rfl | decide +kernel)
    (case xs15_9 => first | k_is | rfl | kernel_rfl | decide +kernel)
    (case xs16_10 => first | k_is | rfl | kernel_rfl | decide +kernel)
    (case xs16_11 => first | k_is | rfl | kernel_rfl | decide +kernel)
    (case xs16_12 => first | k_is | rfl | kernel_rfl | decide +kernel)
    (case xs16_13 => first | k_is | rfl | kernel_rfl | decide +kernel)
    (case xs16_14 => first | k_is | rfl | kernel_rfl | decide +kernel)
    (case xs16_15 => first | k_is | rfl | kernel_rfl | decide +kernel)
    (case xs16_16 => first | k_is | rfl | kernel_rfl | decide +kernel)
    (case xs16_17 => first | k_is | rfl | kernel_rfl | decide +kernel)
    (case xs16_18 => first | k_is | rfl | kernel_rfl | decide +kernel)
    (case xs16_19 => first | k_is | rfl | kernel_rfl | decide +kernel)
    (case xs16_8 => first | k_is | rfl | kernel_rfl | decide +kernel)
    (case xs16_9 => first | k_is | rfl | kernel_rfl | decide +kernel)
    (case xs17_10 => first | k_is | rfl | kernel_rfl | decide +kernel)
    (case xs17_11 => first | k_is | rfl | kernel_rfl | decide +kernel)
    (case xs17_12 => first | k_is | rfl | kernel_rfl | decide +kernel)
    (case xs17_13 => first | k_is | rfl | kernel_rfl | decide +kernel)
    (case xs17_14 => first | k_is | rfl | kernel_rfl | decide +kernel)
    (case xs17_15 => first | k_is | rfl | kernel_rfl | decide +kernel)
    (case xs17_16 => first | k_is | rfl | kernel_rfl | decide +kernel)
    (case xs17_17 => first | k_is | rfl | kernel_rfl | decide +kernel)
    (case xs17_18 => first | k_is | rfl | kernel_rfl | decide +kernel)
    (case xs17_19 => first | k_is | rfl | kernel_rfl | decide +kernel)
    (case xs17_8 => first | k_is | rfl | kernel_rfl | decide +kernel)
    (case xs17_9 => first | k_is | rfl | kernel_rfl | decide +kernel)
    (case xs18_10 => first | k_is | rfl | kernel_rfl | decide +kernel)
    (case xs18_11 => first | k_is | rfl | kernel_rfl | decide +kernel)
    (case xs18_12 => first | k_is | rfl | kernel_rfl | decide +kernel)
    (case xs18_13 => first | k_is | rfl | kernel_rfl | decide +kernel)
    (case xs18_14 => first | k_is | rfl | kernel_rfl | decide +kernel)
    (case xs18_15 => first | k_is | rfl | kernel_rfl | decide +kernel)
    (case xs18_16 => first | k_is | rfl | kernel_rfl | decide +kernel)
    (case xs18_17 => first | k_is | rfl | kernel_rfl | decide +kernel)
    (case xs18_18 => first | k_is | rfl | kernel_rfl | decide +kernel)
    (case xs18_19 => first | k_is | rfl | kernel_rfl | decide +kernel)
    (case xs18_8 => first | k_is | rfl | kernel_rfl | decide +kernel)
    (case xs18_9 => first | k_is | rfl | kernel_rfl | decide +kernel)
    (case xs19_10 => first | k_is | rfl | kernel_rfl | decide +kernel)
    (case xs19_11 => first | k_is | rfl | kernel_rfl | decide +kernel)
    (case xs19_12 => first | k_is | rfl | kernel_rfl | decide +kernel)
    (case xs19_13 => first | k_is | rfl | kernel_rfl | decide +kernel)
    (case xs19_14 => first | k_is | rfl | kernel_rfl | decide +kernel)
    (case xs19_15 => first | k_is | rfl | kernel_rfl | decide +kernel)
    (case xs19_16 => first | k_is | rfl | kernel_rfl | decide +kernel)
    (case xs19_17 => first | k_is | rfl | kernel_rfl | decide +kernel)
    (case xs19_18 => first | k_is | rfl | kernel_rfl | decide +kernel)
    (case xs19_19 => first | k_is | rfl | kernel_rfl | decide +kernel)
    (case xs19_8 => first | k_is | rfl | kernel_rfl | decide +kernel)
    (case xs19_9 => first | k_is | rfl | kernel_rfl | decide +kernel)
    (case xs8_10 => first | k_is | rfl | kernel_rfl | decide +kernel)
    (case xs8_11 => first | k_is | rfl | kernel_rfl | decide +kernel)
    (case xs8_12 => first | k_is | rfl | kernel_rfl | decide +kernel)
    (case xs8_13 => first | k_is | rfl | kernel_rfl | decide +kernel)
    (case xs8_14 => first | k_is | rfl | kernel_rfl | decide +kernel)
    (case xs8_15 => first | k_is | rfl | kernel_rfl | decide +kernel)
    (case xs8_16 => first | k_is | rfl | kernel_rfl | decide +kernel)
    (case xs8_17 => first | k_is | rfl | kernel_rfl | decide +kernel)
    (case xs8_18 => first | k_is | rfl | kernel_rfl | decide +kernel)
    (case xs8_19 => first | k_is | rfl | kernel_rfl | decide +kernel)
    (case xs8_8 => first | k_is | rfl | kernel_rfl | decide +kernel)
    (case xs8_9 => first | k_is | rfl | kernel_rfl | decide +kernel)
    (case xs9_10 => first | k_is | rfl | kernel_rfl | decide +kernel)
    (case xs9_11 => first | k_is | rfl | kernel_rfl | decide +kernel)
    (case xs9_12 => first | k_is | rfl | kernel_rfl | decide +kernel)
    (case xs9_13 => first | k_is | rfl | kernel_rfl | decide +kernel)
    (case xs9_14 => first | k_is | rfl | kernel_rfl | decide +kernel)
    (case xs9_15 => first | k_is | rfl | kernel_rfl | decide +kernel)
    (case xs9_16 => first | k_is | rfl | kernel_rfl | decide +kernel)
    (case xs9_17 => first | k_is | rfl | kernel_rfl | decide +kernel)
    (case xs9_18 => first | k_is | rfl | kernel_rfl | decide +kernel)
    (case xs9_19 => first | k_is | rfl | kernel_rfl | decide +kernel)
    (case xs9_8 => first | k_is | rfl | kernel_rfl | decide +kernel)
    (case xs9_9 => first | k_is | rfl | kernel_rfl | decide +kernel)
    (case xv10_IndexError => first | k_is | rfl | kernel_rfl | decide +kernel)
    (case xv10_KeyError => first | k_is | rfl | kernel_rfl | decide +kernel)
    (case xv10_LookupError => first | k_is | rfl | kernel_rfl | decide +kernel)
    (case xv10_NotImplementedError => first | k_is | rfl | kernel_rfl | decide +kernel)
    (case xv10_OverflowError => first | k_is | rfl | kernel_rfl | decide +kernel)
    (case xv10_RuntimeError => first | k_is | rfl | kernel_rfl | decide +kernel)
    (case xv10_ValueError => first | k_is | rfl | kernel_rfl | decide +kernel)
    (case xv11_IndexError => first | k_is | rfl | kernel_rfl | decide +kernel)
    (case xv11_KeyError => first | k_is | rfl | kernel_rfl | decide +kernel)
    (case xv11_LookupError => first | k_is | rfl | kernel_rfl | decide +kernel)
    (case xv11_NotImplementedError => first | k_is | rfl | kernel_rfl | decide +kernel)
    (case xv11_OverflowError => first | k_is | rfl | kernel_rfl | decide +kernel)
    (case xv11_RuntimeError => first | k_is | rfl | kernel_rfl | decide +kernel)
    (case xv11_ValueError => first | k_is | rfl | kernel_rfl | decide +kernel)
    (case xv12_IndexError => first | k_is | rfl | kernel_rfl | decide +kernel)
    (case xv12_KeyError => first | k_is | rfl | kernel_rfl | decide +kernel)
    (case xv12_LookupError => first | k_is | rfl | kernel_rfl | decide +kernel)
    (case xv12_NotImplementedError => first | k_is | rfl | kernel_rfl | decide +kernel)
    (case xv12_OverflowError => first | k_is | rfl | kernel_rfl | decide +kernel)
    (case xv12_RuntimeError => first | k_is | rfl | kernel_rfl | decide +kernel)
    (case xv12_ValueError => first | k_is | rfl | kernel_rfl | decide +kernel)
    (case xv13_IndexError => first | k_is | rfl | kernel_rfl | decide +kernel)
    (case xv13_KeyError => first | k_is | rfl | kernel_rfl | decide +kernel)
    (case xv13_LookupError => first | k_is | rfl | kernel_rfl | decide +kernel)
    (case xv13_NotImplementedError => first | k_is | rfl | kernel_rfl | decide +kernel)
    (case xv13_OverflowError => first | k_is | rfl | kernel_rfl | decide +kernel)
    (case xv13_RuntimeError => first | k_is | rfl | kernel_rfl | decide +kernel)
    (case xv13_ValueError => first | k_is | rfl | kernel_rfl | decide +kernel)
    (case xv14_IndexError => first | k_is | rfl | kernel_rfl | decide +kernel)
    (case xv14_KeyError => first | k_is | rfl | kernel_rfl | decide +kernel)
    (case xv14_LookupError => first | k_is | rfl | kernel_rfl | decide +kernel)
    (case xv14_NotImplementedError => first | k_is | rfl | kernel_rfl | decide +kernel)
    (case xv14_OverflowError => first | k_is | rfl | kernel_rfl | decide +kernel)
    (case xv14_RuntimeError => first | k_is | rfl | kernel_rfl | decide +kernel)
    (case xv14_ValueError => first | k_is | rfl | kernel_rfl | decide +kernel)
    (case xv15_IndexError => first | k_is | rfl | kernel_rfl | decide +kernel)
    (case xv15_KeyError => first | k_is | rfl | kernel_rfl | decide +kernel)
    (case xv15_LookupError => first | k_is | rfl | kernel_rfl | decide +kernel)
    (case xv15_NotImplementedError => first | k_is | rfl | kernel_rfl | decide +kernel)
    (case xv15_OverflowError => first | k_is | rfl | kernel_rfl | decide +kernel)
    (case xv15_RuntimeError => first | k_is | rfl | kernel_rfl | decide +kernel)
    (case xv15_ValueError => first | k_is | rfl | kernel_rfl | decide +kernel)
    (case xv16_IndexError => first | k_is | rfl | kernel_rfl | decide +kernel)
    (case xv16_KeyError => first | k_is | rfl | kernel_rfl | decide +kernel)
    (case xv16_LookupError => first | k_is | rfl | kernel_rfl | decide +kernel)
    (case xv16_NotImplementedError => first | k_is | rfl | kernel_rfl | decide +kernel)
    (case xv16_OverflowError => first | k_is | rfl | kernel_rfl | decide +kernel)
    (case xv16_RuntimeError => first | k_is | rfl | kernel_rfl | decide +kernel)
    (case xv16_ValueError => first | k_is | rfl | kernel_rfl | decide +kernel)
    (case xv17_IndexError => first | k_is | rfl | kernel_rfl | decide +kernel)
    (case xv17_KeyError => first | k_is | rfl | kernel_rfl | decide +kernel)
    (case xv17_LookupError => first | k_is | rfl | kernel_rfl | decide +kernel)
    (case xv17_NotImplementedError => first | k_is | rfl | kernel_rfl | decide +kernel)
    (case xv17_OverflowError => first | k_is | rfl | kernel_rfl | decide +kernel)
    (case xv17_RuntimeError => first | k_is | rfl | kernel_rfl | decide +kernel)
    (case xv17_ValueError => first | k_is | rfl | kernel_rfl | decide +kernel)
    (case xv18_IndexError => first | k_is | rfl | kernel_rfl | decide +kernel)
    (case xv18_KeyError => first | k_is | rfl | kernel_rfl | decide +kernel)
    (case xv18_LookupError => first | k_is | rfl | kernel_rfl | decide +kernel)
    (case xv18_NotImplementedError => first | k_is | rfl | kernel_rfl | decide +kernel)
    (case xv18_OverflowError => first | k_is | rfl | kernel_rfl | decide +kernel)
    (case xv18_RuntimeError => first | k_is | rfl | kernel_rfl | decide +kernel)
    (case xv18_ValueError => first | k_is | rfl | kernel_rfl | decide +kernel)
    (case xv19_IndexError => first | k_is | rfl | kernel_rfl | decide +kernel)
    (case xv19_KeyError => first | k_is | rfl | kernel_rfl | decide +kernel)
    (case xv19_LookupError => first | k_is | rfl | kernel_rfl | decide +kernel)
    (case xv19_NotImplementedError => first | k_is | rfl | kernel_rfl | decide +kernel)
    (case xv19_OverflowError => first | k_is | rfl | kernel_rfl | decide +kernel)
    (case xv19_RuntimeError => first | k_is | rfl | kernel_rfl | decide +kernel)
    (case xv19_ValueError => first | k_is | rfl | kernel_rfl | decide +kernel)
    (case xv8_IndexError => first | k_is | rfl | kernel_rfl | decide +kernel)
    (case xv8_KeyError => first | k_is | rfl | kernel_rfl | decide +kernel)
    (case xv8_LookupError => first | k_is | rfl | kernel_rfl | decide +kernel)
    (case xv8_NotImplementedError => first | k_is | rfl | kernel_rfl | decide +kernel)
    (case xv8_OverflowError => first | k_is | rfl | kernel_rfl | decide +kernel)
    (case xv8_RuntimeError => first | k_is | rfl | kernel_rfl | decide +kernel)
    (case xv8_ValueError => first | k_is | rfl | kernel_rfl | decide +kernel)
    (case xv9_IndexError => first | k_is | rfl | kernel_rfl | decide +kernel)
    (case xv9_KeyError => first | k_is | rfl | kernel_rfl | decide +kernel)
    (case xv9_LookupError => first | k_is | rfl | kernel_rfl | decide +kernel)
    (case xv9_NotImplementedError => first | k_is | rfl | kernel_rfl | decide +kernel)
    (case xv9_OverflowError => first | k_is | rfl | kernel_rfl | decide +kernel)
    (case xv9_RuntimeError => first | k_is | rfl | kernel_rfl | decide +kernel)
    (case xv9_ValueError => first | k_is | rfl | kernel_rfl | decide +kernel)
    (case xhn => first | k_is | rfl | kernel_rfl | decide +kernel)
    (case xtk => first | k_is | rfl | kernel_rfl | decide +kernel)
    (case a0 => k_is); (case l0 => k_is); (case c0 => k_is); (case k0 => k_is)
    (case a1 => k_is); (case l1 => k_is); (case c1 => k_is); (case k1 => k_is)
    (case a2 => k_is); (case l2 => k_is); (case c2 => k_is); (case k2 => k_is)
    (case a3 => k_is); (case l3 => k_is); (case c3 => k_is); (case k3 => k_is)
    (case a4 => k_is); (case l4 => k_is); (case c4 => k_is); (case k4 => k_is)
    (case a5 => k_is); (case l5 => k_is); (case c5 => k_is); (case k5 => k_is)
    (case a6 => k_is); (case l6 => k_is); (case c6 => k_is); (case k6 => k_is)
    (case a7 => k_is); (case l7 => k_is); (case c7 => k_is); (case k7 => k_is)
    (case a8 => k_is); (case l8 => k_is); (case c8 => k_is); (case k8 => k_is)
    (case a9 => k_is); (case l9 => k_is); (case c9 => k_is); (case k9 => k_is)
    (case z_len => k_is); (case z_abs => k_is); (case z_int => k_is); (case z_max => k_is); (case z_min => k_is); (case z_all => k_is); (case z_any => k_is); (case z_sum => k_is); (case z_tuple => k_is); (case z_list => k_is); (case z_dict => k_is); (case z_sorted => k_is); (case z_isinstance => k_is); (case z_str => k_is); (case z_bool => k_is); (case z_range => k_is); (case z_enumerate => k_is); (case z_zip => k_is); (case z_reversed => k_is); (case z_repr => k_is); (case z_set => k_is)
